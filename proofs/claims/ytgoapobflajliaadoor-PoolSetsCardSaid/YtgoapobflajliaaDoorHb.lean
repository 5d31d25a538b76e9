/- For every size, room and list of numbers what is taken of the sets of chapter 39 is empty, and a set that waits is taken ahead of a new one: PoolSets returns true, and its arguments read as they did. This text: the walks through the functions that the statement reaches. No condition but those in the statement. -/
import Derived.WalkKit
import Derived.StillTailTactics
import Derived.Deep.LoopGhost
import Derived.KernelRfl
import Derived.Deep.OwnRows
import Derived.Laws.OwnMore
import Derived.Laws.MakeOwn
import Derived.Maps.AppendAt
import Derived.OrdersHeld
import Derived.LaidEql
import Derived.Conc.LoneCalls
import Derived.Conc.LoneSelect
import Derived.Conc.LoneSelectN
import Derived.Test.YtgoapobflajliaaDoorProg
import Derived.Test.YtgoapobflajliaaDoorHa
namespace Go.Proofs.YtgoapobflajliaaDoor
open Go Go.RowKit Go.Shelf Go.Proofs.YtgoapobflajliaaDoor.Hp
attribute [local irreducible] wpStill wpList Code.wp TA
set_option linter.unusedVariables false
set_option linter.unusedSimpArgs false

set_option maxRecDepth 100000 in
set_option maxHeartbeats 1000000 in
theorem ones64 (x : Nat) (W : World) (hx : x < 18446744073709551616) : Calls Tryd.prog 51 #[.int .u64 (x : Int)] W fun e W' => e = .returned (.int .i64 ((pc 64 x : Nat) : Int)) ∧ St W (owns []) W' [] := by
  have HS : St W (owns []) W [] := St.start W _
  refine calls_enter [.int .u64 (x : Int), undef, undef, undef, undef, undef, undef, undef, undef, undef, undef, undef, undef, undef, undef, undef, undef, undef, undef, undef, undef, undef, undef, undef, undef, undef, undef, undef, undef, undef, undef, undef, undef, undef, undef] Tryd.func51 rfl (by kernel_rfl) ?_
  refine wp_seq ?_
  refine wp_region_lit ?_
  refine ql (.int .i64 0) (by kernel_rfl) (by kernel_rfl) ?_
  refine wpList_nil ?_
  refine x_then ?_
  refine wp_seq ?_
  refine wp_region_lit ?_
  refine ql (.int .u64 (x : Int)) (by kernel_rfl) (by kernel_rfl) ?_
  obtain ⟨v1, hv1⟩ : ∃ z_ : Nat, z_ = x >>> 1 := ⟨_, rfl⟩
  have hbv1 : v1 ≤ x := by rw [hv1]; exact Nat.shiftRight_le _ _
  refine ql (.int .u64 (v1 : Int)) (by kernel_rfl) (by rw [hv1]; exact R_shrN (k2 := .u64) (m := x) (k := 1) (by kernel_rfl) (by kernel_rfl) (by omega) (by omega)) ?_
  obtain ⟨v2, hv2⟩ : ∃ z_ : Nat, z_ = v1 &&& 6148914691236517205 := ⟨_, rfl⟩
  have hbv2 : v2 ≤ 6148914691236517205 := by rw [hv2]; exact Nat.and_le_right
  refine ql (.int .u64 (v2 : Int)) (by kernel_rfl) (by rw [hv2]; exact R_andN (m := v1) (k := 6148914691236517205) (by kernel_rfl) (by kernel_rfl) (by omega) (by omega)) ?_
  refine ql (.int .u64 (x : Int)) (by kernel_rfl) (by kernel_rfl) ?_
  obtain ⟨v3, hv3⟩ : ∃ z_ : Nat, z_ = x &&& 6148914691236517205 := ⟨_, rfl⟩
  have hbv3 : v3 ≤ 6148914691236517205 := by rw [hv3]; exact Nat.and_le_right
  refine ql (.int .u64 (v3 : Int)) (by kernel_rfl) (by rw [hv3]; exact R_andN (m := x) (k := 6148914691236517205) (by kernel_rfl) (by kernel_rfl) (by omega) (by omega)) ?_
  obtain ⟨v4, hv4⟩ : ∃ z_ : Nat, z_ = v2 + v3 := ⟨_, rfl⟩
  refine ql (.int .u64 (v4 : Int)) (by kernel_rfl) (by rw [hv4]; exact R_addN (m := v2) (k := v3) (by kernel_rfl) (by kernel_rfl) (by omega)) ?_
  refine ql (.int .u64 (v4 : Int)) (by kernel_rfl) (by kernel_rfl) ?_
  refine wpList_nil ?_
  refine x_then ?_
  refine wp_seq ?_
  refine wp_region_lit ?_
  refine ql (.int .u64 (v4 : Int)) (by kernel_rfl) (by kernel_rfl) ?_
  obtain ⟨v5, hv5⟩ : ∃ z_ : Nat, z_ = v4 >>> 2 := ⟨_, rfl⟩
  have hbv5 : v5 ≤ v4 := by rw [hv5]; exact Nat.shiftRight_le _ _
  refine ql (.int .u64 (v5 : Int)) (by kernel_rfl) (by rw [hv5]; exact R_shrN (k2 := .u64) (m := v4) (k := 2) (by kernel_rfl) (by kernel_rfl) (by omega) (by omega)) ?_
  obtain ⟨v6, hv6⟩ : ∃ z_ : Nat, z_ = v5 &&& 3689348814741910323 := ⟨_, rfl⟩
  have hbv6 : v6 ≤ 3689348814741910323 := by rw [hv6]; exact Nat.and_le_right
  refine ql (.int .u64 (v6 : Int)) (by kernel_rfl) (by rw [hv6]; exact R_andN (m := v5) (k := 3689348814741910323) (by kernel_rfl) (by kernel_rfl) (by omega) (by omega)) ?_
  refine ql (.int .u64 (v4 : Int)) (by kernel_rfl) (by kernel_rfl) ?_
  obtain ⟨v7, hv7⟩ : ∃ z_ : Nat, z_ = v4 &&& 3689348814741910323 := ⟨_, rfl⟩
  have hbv7 : v7 ≤ 3689348814741910323 := by rw [hv7]; exact Nat.and_le_right
  refine ql (.int .u64 (v7 : Int)) (by kernel_rfl) (by rw [hv7]; exact R_andN (m := v4) (k := 3689348814741910323) (by kernel_rfl) (by kernel_rfl) (by omega) (by omega)) ?_
  obtain ⟨v8, hv8⟩ : ∃ z_ : Nat, z_ = v6 + v7 := ⟨_, rfl⟩
  refine ql (.int .u64 (v8 : Int)) (by kernel_rfl) (by rw [hv8]; exact R_addN (m := v6) (k := v7) (by kernel_rfl) (by kernel_rfl) (by omega)) ?_
  refine ql (.int .u64 (v8 : Int)) (by kernel_rfl) (by kernel_rfl) ?_
  refine wpList_nil ?_
  refine x_then ?_
  refine wp_seq ?_
  refine wp_region_lit ?_
  refine ql (.int .u64 (v8 : Int)) (by kernel_rfl) (by kernel_rfl) ?_
  obtain ⟨v9, hv9⟩ : ∃ z_ : Nat, z_ = v8 >>> 4 := ⟨_, rfl⟩
  have hbv9 : v9 ≤ v8 := by rw [hv9]; exact Nat.shiftRight_le _ _
  refine ql (.int .u64 (v9 : Int)) (by kernel_rfl) (by rw [hv9]; exact R_shrN (k2 := .u64) (m := v8) (k := 4) (by kernel_rfl) (by kernel_rfl) (by omega) (by omega)) ?_
  refine ql (.int .u64 (v8 : Int)) (by kernel_rfl) (by kernel_rfl) ?_
  obtain ⟨v10, hv10⟩ : ∃ z_ : Nat, z_ = v9 + v8 := ⟨_, rfl⟩
  refine ql (.int .u64 (v10 : Int)) (by kernel_rfl) (by rw [hv10]; exact R_addN (m := v9) (k := v8) (by kernel_rfl) (by kernel_rfl) (by omega)) ?_
  obtain ⟨v11, hv11⟩ : ∃ z_ : Nat, z_ = v10 &&& 1085102592571150095 := ⟨_, rfl⟩
  have hbv11 : v11 ≤ 1085102592571150095 := by rw [hv11]; exact Nat.and_le_right
  refine ql (.int .u64 (v11 : Int)) (by kernel_rfl) (by rw [hv11]; exact R_andN (m := v10) (k := 1085102592571150095) (by kernel_rfl) (by kernel_rfl) (by omega) (by omega)) ?_
  refine ql (.int .u64 (v11 : Int)) (by kernel_rfl) (by kernel_rfl) ?_
  refine wpList_nil ?_
  refine x_then ?_
  refine wp_seq ?_
  refine wp_region_lit ?_
  refine ql (.int .u64 (v11 : Int)) (by kernel_rfl) (by kernel_rfl) ?_
  refine ql (.int .u64 (v11 : Int)) (by kernel_rfl) (by kernel_rfl) ?_
  obtain ⟨v12, hv12⟩ : ∃ z_ : Nat, z_ = v11 >>> 8 := ⟨_, rfl⟩
  have hbv12 : v12 ≤ v11 := by rw [hv12]; exact Nat.shiftRight_le _ _
  refine ql (.int .u64 (v12 : Int)) (by kernel_rfl) (by rw [hv12]; exact R_shrN (k2 := .u64) (m := v11) (k := 8) (by kernel_rfl) (by kernel_rfl) (by omega) (by omega)) ?_
  obtain ⟨v13, hv13⟩ : ∃ z_ : Nat, z_ = v11 + v12 := ⟨_, rfl⟩
  refine ql (.int .u64 (v13 : Int)) (by kernel_rfl) (by rw [hv13]; exact R_addN (m := v11) (k := v12) (by kernel_rfl) (by kernel_rfl) (by omega)) ?_
  refine ql (.int .u64 (v13 : Int)) (by kernel_rfl) (by kernel_rfl) ?_
  refine wpList_nil ?_
  refine x_then ?_
  refine wp_seq ?_
  refine wp_region_lit ?_
  refine ql (.int .u64 (v13 : Int)) (by kernel_rfl) (by kernel_rfl) ?_
  refine ql (.int .u64 (v13 : Int)) (by kernel_rfl) (by kernel_rfl) ?_
  obtain ⟨v14, hv14⟩ : ∃ z_ : Nat, z_ = v13 >>> 16 := ⟨_, rfl⟩
  have hbv14 : v14 ≤ v13 := by rw [hv14]; exact Nat.shiftRight_le _ _
  refine ql (.int .u64 (v14 : Int)) (by kernel_rfl) (by rw [hv14]; exact R_shrN (k2 := .u64) (m := v13) (k := 16) (by kernel_rfl) (by kernel_rfl) (by omega) (by omega)) ?_
  obtain ⟨v15, hv15⟩ : ∃ z_ : Nat, z_ = v13 + v14 := ⟨_, rfl⟩
  refine ql (.int .u64 (v15 : Int)) (by kernel_rfl) (by rw [hv15]; exact R_addN (m := v13) (k := v14) (by kernel_rfl) (by kernel_rfl) (by omega)) ?_
  refine ql (.int .u64 (v15 : Int)) (by kernel_rfl) (by kernel_rfl) ?_
  refine wpList_nil ?_
  refine x_then ?_
  refine wp_seq ?_
  refine wp_region_lit ?_
  refine ql (.int .u64 (v15 : Int)) (by kernel_rfl) (by kernel_rfl) ?_
  refine ql (.int .u64 (v15 : Int)) (by kernel_rfl) (by kernel_rfl) ?_
  obtain ⟨v16, hv16⟩ : ∃ z_ : Nat, z_ = v15 >>> 32 := ⟨_, rfl⟩
  have hbv16 : v16 ≤ v15 := by rw [hv16]; exact Nat.shiftRight_le _ _
  refine ql (.int .u64 (v16 : Int)) (by kernel_rfl) (by rw [hv16]; exact R_shrN (k2 := .u64) (m := v15) (k := 32) (by kernel_rfl) (by kernel_rfl) (by omega) (by omega)) ?_
  obtain ⟨v17, hv17⟩ : ∃ z_ : Nat, z_ = v15 + v16 := ⟨_, rfl⟩
  refine ql (.int .u64 (v17 : Int)) (by kernel_rfl) (by rw [hv17]; exact R_addN (m := v15) (k := v16) (by kernel_rfl) (by kernel_rfl) (by omega)) ?_
  refine ql (.int .u64 (v17 : Int)) (by kernel_rfl) (by kernel_rfl) ?_
  refine wpList_nil ?_
  refine x_then ?_
  refine wp_seq ?_
  refine wp_region_lit ?_
  refine ql (.int .u64 (v17 : Int)) (by kernel_rfl) (by kernel_rfl) ?_
  refine ql (.int .i64 (v17 : Int)) (by kernel_rfl) (R_int (by kernel_rfl) (w64 (by omega))) ?_
  refine ql (.int .i64 ((v17 : Int) % 128)) (by kernel_rfl) (R_and127 (by kernel_rfl) (by kernel_rfl) (by omega) (by omega)) ?_
  refine ql (.int .i64 ((v17 : Int) % 128)) (by kernel_rfl) (by kernel_rfl) ?_
  refine wpList_nil ?_
  refine x_then ?_
  refine wp_ret ?_
  refine ret_ (.int .i64 ((v17 : Int) % 128)) (by kernel_rfl) ?_
  have hX : (v17 : Int) % 128 = ((onesC x : Nat) : Int) := by unfold onesC; simp only [hv1, hv2, hv3, hv4, hv5, hv6, hv7, hv8, hv9, hv10, hv11, hv12, hv13, hv14, hv15, hv16, hv17]; rfl
  rw [onesC_eq hx] at hX
  exact ⟨by rw [hX], HS⟩

set_option maxRecDepth 100000 in
set_option maxHeartbeats 1000000 in
theorem dsize (g : Nat) (n : Int) (W : World) (hz1 : W.cell? ⟨g, 1, none⟩ = some (.int .i64 n)) : Calls Tryd.prog 21 #[.pointer (some ⟨g, 0, none⟩)] W fun e W' => e = .returned (.int .i64 n) ∧ St W (owns []) W' [] := by
  have HS : St W (owns []) W [] := St.start W _
  refine calls_enter [.pointer (some ⟨g, 0, none⟩), undef, undef, undef, undef, undef, undef, undef, undef] Tryd.func21 rfl (by kernel_rfl) ?_
  refine wp_seq ?_
  refine wp_region_lit ?_
  refine ql (.int .i64 0) (by kernel_rfl) (by kernel_rfl) ?_
  refine wpList_nil ?_
  refine x_then ?_
  refine wp_seq ?_
  refine wp_seq ?_
  refine wp_region_lit ?_
  refine ql (.pointer (some ⟨g, 0, none⟩)) (by kernel_rfl) (by kernel_rfl) ?_
  refine ql (.bool false) (by kernel_rfl) (by kernel_rfl) ?_
  refine wpList_nil ?_
  refine x_then ?_
  refine wp_cond_false (by kernel_rfl) ?_
  refine wp_skip ?_
  refine x_then ?_
  refine wp_seq ?_
  refine wp_region_lit ?_
  refine ql (.pointer (some ⟨g, 0, none⟩)) (by kernel_rfl) (by kernel_rfl) ?_
  refine ql (.pointer (some ⟨g, 0, none⟩)) (by kernel_rfl) (by kernel_rfl) ?_
  refine ql (.pointer (some ⟨g, 1, none⟩)) (by kernel_rfl) (by kernel_rfl) ?_
  refine ql (.int .i64 n) (by kernel_rfl) (R_load (p := ⟨g, 1, none⟩) (by kernel_rfl) (by kernel_rfl) (by kernel_rfl) (HS.old0 hz1)) ?_
  refine ql (.int .i64 n) (by kernel_rfl) (by kernel_rfl) ?_
  refine wpList_nil ?_
  refine x_then ?_
  refine wp_ret ?_
  refine ret_ (.int .i64 n) (by kernel_rfl) ?_
  exact ⟨rfl, HS⟩

set_option maxRecDepth 100000 in
set_option maxHeartbeats 1000000 in
theorem dis_t (g : Nat) (n i : Int) (W : World) (hz1 : W.cell? ⟨g, 1, none⟩ = some (.int .i64 n)) (h0 : 0 ≤ i) (h1 : i < n) : Calls Tryd.prog 45 #[.pointer (some ⟨g, 0, none⟩), .int .i64 i] W fun e W' => e = .returned (.bool true) ∧ St W (owns []) W' [] := by
  have HS : St W (owns []) W [] := St.start W _
  refine calls_enter [.pointer (some ⟨g, 0, none⟩), .int .i64 i, undef, undef, undef, undef, undef, undef, undef, undef, undef, undef, undef] Tryd.func45 rfl (by kernel_rfl) ?_
  refine wp_seq ?_
  refine wp_region_lit ?_
  refine ql (.bool false) (by kernel_rfl) (by kernel_rfl) ?_
  refine wpList_nil ?_
  refine x_then ?_
  refine wp_seq ?_
  refine wp_region_lit ?_
  refine ql (.int .i64 i) (by kernel_rfl) (by kernel_rfl) ?_
  by_cases hc1 : i ≥ (0 : Int)
  · skip
    refine ql (.bool true) (by kernel_rfl) (R_bool (p := i ≥ (0 : Int)) (by kernel_rfl) (hc1)) ?_
    refine ql (.bool true) (by kernel_rfl) (by kernel_rfl) ?_
    refine ql (.int .i64 i) (by kernel_rfl) (by kernel_rfl) ?_
    refine ql (.pointer (some ⟨g, 0, none⟩)) (by kernel_rfl) (by kernel_rfl) ?_
    refine qc (f := 21) (args := #[.pointer (some ⟨g, 0, none⟩)]) (by kernel_rfl) (R_call #[.pointer (some ⟨g, 0, none⟩)] Tryd.func21 (by kernel_rfl) (by kernel_rfl) (by kernel_rfl)) ?_
    refine (dsize _ _ _ (HS.old0 hz1)).mono ?_
    rintro e W2 ⟨rfl, H_⟩
    refine ⟨_, rfl, ?_⟩
    replace HS : St W (owns []) W2 [] := HS.join (F := []) (G := []) H_
    clear H_
    by_cases hc3 : i < n
    · skip
      refine ql (.bool true) (by kernel_rfl) (R_bool (p := i < n) (by kernel_rfl) (hc3)) ?_
      refine ql (.bool true) (by kernel_rfl) (by kernel_rfl) ?_
      refine ql (.bool true) (by kernel_rfl) (by kernel_rfl) ?_
      refine wpList_nil ?_
      refine x_then ?_
      refine wp_ret ?_
      refine ret_ (.bool true) (by kernel_rfl) ?_
      exact ⟨rfl, HS⟩
    · skip
      refine ql (.bool false) (by kernel_rfl) (R_nbool (p := i < n) (by kernel_rfl) (hc3)) ?_
      refine ql (.bool false) (by kernel_rfl) (by kernel_rfl) ?_
      refine ql (.bool false) (by kernel_rfl) (by kernel_rfl) ?_
      refine wpList_nil ?_
      refine x_then ?_
      refine wp_ret ?_
      refine ret_ (.bool false) (by kernel_rfl) ?_
      exfalso; omega
  · skip
    refine ql (.bool false) (by kernel_rfl) (R_nbool (p := i ≥ (0 : Int)) (by kernel_rfl) (hc1)) ?_
    refine ql (.bool false) (by kernel_rfl) (by kernel_rfl) ?_
    refine qln (by kernel_rfl) ?_
    refine qln (by kernel_rfl) ?_
    refine qln (by kernel_rfl) ?_
    refine qln (by kernel_rfl) ?_
    refine ql (.bool false) (by kernel_rfl) (by kernel_rfl) ?_
    refine ql (.bool false) (by kernel_rfl) (by kernel_rfl) ?_
    refine wpList_nil ?_
    refine x_then ?_
    refine wp_ret ?_
    refine ret_ (.bool false) (by kernel_rfl) ?_
    exfalso; omega

set_option maxRecDepth 100000 in
set_option maxHeartbeats 1000000 in
theorem dis_f (g : Nat) (n i : Int) (W : World) (hz1 : W.cell? ⟨g, 1, none⟩ = some (.int .i64 n)) (ho : i < 0 ∨ n ≤ i) : Calls Tryd.prog 45 #[.pointer (some ⟨g, 0, none⟩), .int .i64 i] W fun e W' => e = .returned (.bool false) ∧ St W (owns []) W' [] := by
  have HS : St W (owns []) W [] := St.start W _
  refine calls_enter [.pointer (some ⟨g, 0, none⟩), .int .i64 i, undef, undef, undef, undef, undef, undef, undef, undef, undef, undef, undef] Tryd.func45 rfl (by kernel_rfl) ?_
  refine wp_seq ?_
  refine wp_region_lit ?_
  refine ql (.bool false) (by kernel_rfl) (by kernel_rfl) ?_
  refine wpList_nil ?_
  refine x_then ?_
  refine wp_seq ?_
  refine wp_region_lit ?_
  refine ql (.int .i64 i) (by kernel_rfl) (by kernel_rfl) ?_
  by_cases hc1 : i ≥ (0 : Int)
  · skip
    refine ql (.bool true) (by kernel_rfl) (R_bool (p := i ≥ (0 : Int)) (by kernel_rfl) (hc1)) ?_
    refine ql (.bool true) (by kernel_rfl) (by kernel_rfl) ?_
    refine ql (.int .i64 i) (by kernel_rfl) (by kernel_rfl) ?_
    refine ql (.pointer (some ⟨g, 0, none⟩)) (by kernel_rfl) (by kernel_rfl) ?_
    refine qc (f := 21) (args := #[.pointer (some ⟨g, 0, none⟩)]) (by kernel_rfl) (R_call #[.pointer (some ⟨g, 0, none⟩)] Tryd.func21 (by kernel_rfl) (by kernel_rfl) (by kernel_rfl)) ?_
    refine (dsize _ _ _ (HS.old0 hz1)).mono ?_
    rintro e W2 ⟨rfl, H_⟩
    refine ⟨_, rfl, ?_⟩
    replace HS : St W (owns []) W2 [] := HS.join (F := []) (G := []) H_
    clear H_
    by_cases hc3 : i < n
    · skip
      refine ql (.bool true) (by kernel_rfl) (R_bool (p := i < n) (by kernel_rfl) (hc3)) ?_
      refine ql (.bool true) (by kernel_rfl) (by kernel_rfl) ?_
      refine ql (.bool true) (by kernel_rfl) (by kernel_rfl) ?_
      refine wpList_nil ?_
      refine x_then ?_
      refine wp_ret ?_
      refine ret_ (.bool true) (by kernel_rfl) ?_
      exfalso; omega
    · skip
      refine ql (.bool false) (by kernel_rfl) (R_nbool (p := i < n) (by kernel_rfl) (hc3)) ?_
      refine ql (.bool false) (by kernel_rfl) (by kernel_rfl) ?_
      refine ql (.bool false) (by kernel_rfl) (by kernel_rfl) ?_
      refine wpList_nil ?_
      refine x_then ?_
      refine wp_ret ?_
      refine ret_ (.bool false) (by kernel_rfl) ?_
      exact ⟨rfl, HS⟩
  · skip
    refine ql (.bool false) (by kernel_rfl) (R_nbool (p := i ≥ (0 : Int)) (by kernel_rfl) (hc1)) ?_
    refine ql (.bool false) (by kernel_rfl) (by kernel_rfl) ?_
    refine qln (by kernel_rfl) ?_
    refine qln (by kernel_rfl) ?_
    refine qln (by kernel_rfl) ?_
    refine qln (by kernel_rfl) ?_
    refine ql (.bool false) (by kernel_rfl) (by kernel_rfl) ?_
    refine ql (.bool false) (by kernel_rfl) (by kernel_rfl) ?_
    refine wpList_nil ?_
    refine x_then ?_
    refine wp_ret ?_
    refine ret_ (.bool false) (by kernel_rfl) ?_
    exact ⟨rfl, HS⟩

set_option maxRecDepth 100000 in
set_option maxHeartbeats 1000000 in
theorem dhas_t (g c : Nat) (A : Option Addr) (ws : List Int) (n : Int) (L : List Int) (i : Int) (W : World) (hz0 : W.cell? ⟨g, 0, none⟩ = some (.slice A ws.length c)) (hz1 : W.cell? ⟨g, 1, none⟩ = some (.int .i64 n)) (hr : Rd W A (ci .u64 ws)) (hR : Rep ws n L) (hn : n ≤ 1048576) (hi : i ∈ L) : Calls Tryd.prog 19 #[.pointer (some ⟨g, 0, none⟩), .int .i64 i] W fun e W' => e = .returned (.bool true) ∧ St W (owns []) W' [] := by
  have HS : St W (owns []) W [] := St.start W _
  have h0 := (hR.lim i hi).1
  have h1 := (hR.lim i hi).2
  have hix := hR.idx h0 h1
  refine calls_enter [.pointer (some ⟨g, 0, none⟩), .int .i64 i, undef, undef, undef, undef, undef, undef, undef, undef, undef, undef, undef, undef, undef, undef, undef, undef, undef, undef, undef, undef, undef] Tryd.func19 rfl (by kernel_rfl) ?_
  refine wp_seq ?_
  refine wp_region_lit ?_
  refine ql (.bool false) (by kernel_rfl) (by kernel_rfl) ?_
  refine wpList_nil ?_
  refine x_then ?_
  refine wp_seq ?_
  refine wp_region_lit ?_
  refine ql (.pointer (some ⟨g, 0, none⟩)) (by kernel_rfl) (by kernel_rfl) ?_
  refine ql (.int .i64 i) (by kernel_rfl) (by kernel_rfl) ?_
  refine qc (f := 45) (args := #[.pointer (some ⟨g, 0, none⟩), .int .i64 i]) (by kernel_rfl) (R_call #[.pointer (some ⟨g, 0, none⟩), .int .i64 i] Tryd.func45 (by kernel_rfl) (by kernel_rfl) (by kernel_rfl)) ?_
  refine (dis_t _ _ i _ (HS.old0 hz1) (hR.lim i hi).1 (hR.lim i hi).2).mono ?_
  rintro e W1 ⟨rfl, H_⟩
  refine ⟨_, rfl, ?_⟩
  replace HS : St W (owns []) W1 [] := HS.join (F := []) (G := []) H_
  clear H_
  refine ql (.bool true) (by kernel_rfl) (by kernel_rfl) ?_
  refine ql (.pointer (some ⟨g, 0, none⟩)) (by kernel_rfl) (by kernel_rfl) ?_
  refine ql (.pointer (some ⟨g, 0, none⟩)) (by kernel_rfl) (by kernel_rfl) ?_
  refine ql (.pointer (some ⟨g, 0, none⟩)) (by kernel_rfl) (by kernel_rfl) ?_
  refine ql (.slice A ws.length c) (by kernel_rfl) (R_load (p := ⟨g, 0, none⟩) (by kernel_rfl) (by kernel_rfl) (by kernel_rfl) (HS.old0 hz0)) ?_
  refine ql (.int .i64 i) (by kernel_rfl) (by kernel_rfl) ?_
  refine ql (.int .i64 (i / 64)) (by kernel_rfl) (R_quo (by kernel_rfl) (by kernel_rfl) (by omega) (by omega) (by decide)) ?_
  obtain ⟨ad2, rfl⟩ := Rd.isSome_ hr (by rw [ci_len]; omega)
  refine ql (.pointer (some (ad2.add (i / 64).toNat))) (by kernel_rfl) (R_indexA1 (k := .i64) (p := ad2) (n := ws.length) (c := c) (i := i / 64) (by kernel_rfl) (by kernel_rfl) Tryd.underlying75 (by kernel_rfl) (by omega) (by omega)) ?_
  refine ql (.int .u64 (rdI ws (i / 64))) (by kernel_rfl) (R_load (p := ad2.add (i / 64).toNat) (by kernel_rfl) (by kernel_rfl) (by kernel_rfl) (HS.old0 (hr.at_ (ci_rd (i := i / 64) (by omega) (by omega))))) ?_
  refine ql (.int .i64 i) (by kernel_rfl) (by kernel_rfl) ?_
  refine ql (.int .i64 (i % 64)) (by kernel_rfl) (R_rem2 (by kernel_rfl) (by kernel_rfl) (by omega) (by omega) (by decide)) ?_
  refine ql (.int .u64 (shrW (rdI ws (i / 64)) (i % 64))) (by kernel_rfl) (R_shr (k2 := .i64) (by kernel_rfl) (by kernel_rfl) (hR.rd_at h0 h1) (by omega) (by omega)) ?_
  refine ql (.int .u64 (andW (shrW (rdI ws (i / 64)) (i % 64)) 1)) (by kernel_rfl) (R_and (by kernel_rfl) (by kernel_rfl) (u_shr (hR.rd_at h0 h1)) (u_lit 1 (by decide))) ?_
  refine ql (.bool true) (by kernel_rfl) (R_beq (b := (andW (shrW (rdI ws (i / 64)) (i % 64)) 1 == (1 : Int))) (by kernel_rfl) (beq_t (hR.has_t hi))) ?_
  refine ql (.bool true) (by kernel_rfl) (by kernel_rfl) ?_
  refine ql (.bool true) (by kernel_rfl) (by kernel_rfl) ?_
  refine wpList_nil ?_
  refine x_then ?_
  refine wp_ret ?_
  refine ret_ (.bool true) (by kernel_rfl) ?_
  exact ⟨rfl, HS⟩

set_option maxRecDepth 100000 in
set_option maxHeartbeats 1000000 in
theorem dhas_f (g c : Nat) (A : Option Addr) (ws : List Int) (n : Int) (L : List Int) (i : Int) (W : World) (hz0 : W.cell? ⟨g, 0, none⟩ = some (.slice A ws.length c)) (hz1 : W.cell? ⟨g, 1, none⟩ = some (.int .i64 n)) (hr : Rd W A (ci .u64 ws)) (hR : Rep ws n L) (hn : n ≤ 1048576) (h0 : 0 ≤ i) (h1 : i < n) (hi : i ∉ L) : Calls Tryd.prog 19 #[.pointer (some ⟨g, 0, none⟩), .int .i64 i] W fun e W' => e = .returned (.bool false) ∧ St W (owns []) W' [] := by
  have HS : St W (owns []) W [] := St.start W _
  have hix := hR.idx h0 h1
  refine calls_enter [.pointer (some ⟨g, 0, none⟩), .int .i64 i, undef, undef, undef, undef, undef, undef, undef, undef, undef, undef, undef, undef, undef, undef, undef, undef, undef, undef, undef, undef, undef] Tryd.func19 rfl (by kernel_rfl) ?_
  refine wp_seq ?_
  refine wp_region_lit ?_
  refine ql (.bool false) (by kernel_rfl) (by kernel_rfl) ?_
  refine wpList_nil ?_
  refine x_then ?_
  refine wp_seq ?_
  refine wp_region_lit ?_
  refine ql (.pointer (some ⟨g, 0, none⟩)) (by kernel_rfl) (by kernel_rfl) ?_
  refine ql (.int .i64 i) (by kernel_rfl) (by kernel_rfl) ?_
  refine qc (f := 45) (args := #[.pointer (some ⟨g, 0, none⟩), .int .i64 i]) (by kernel_rfl) (R_call #[.pointer (some ⟨g, 0, none⟩), .int .i64 i] Tryd.func45 (by kernel_rfl) (by kernel_rfl) (by kernel_rfl)) ?_
  refine (dis_t _ _ i _ (HS.old0 hz1) h0 h1).mono ?_
  rintro e W1 ⟨rfl, H_⟩
  refine ⟨_, rfl, ?_⟩
  replace HS : St W (owns []) W1 [] := HS.join (F := []) (G := []) H_
  clear H_
  refine ql (.bool true) (by kernel_rfl) (by kernel_rfl) ?_
  refine ql (.pointer (some ⟨g, 0, none⟩)) (by kernel_rfl) (by kernel_rfl) ?_
  refine ql (.pointer (some ⟨g, 0, none⟩)) (by kernel_rfl) (by kernel_rfl) ?_
  refine ql (.pointer (some ⟨g, 0, none⟩)) (by kernel_rfl) (by kernel_rfl) ?_
  refine ql (.slice A ws.length c) (by kernel_rfl) (R_load (p := ⟨g, 0, none⟩) (by kernel_rfl) (by kernel_rfl) (by kernel_rfl) (HS.old0 hz0)) ?_
  refine ql (.int .i64 i) (by kernel_rfl) (by kernel_rfl) ?_
  refine ql (.int .i64 (i / 64)) (by kernel_rfl) (R_quo (by kernel_rfl) (by kernel_rfl) (by omega) (by omega) (by decide)) ?_
  obtain ⟨ad2, rfl⟩ := Rd.isSome_ hr (by rw [ci_len]; omega)
  refine ql (.pointer (some (ad2.add (i / 64).toNat))) (by kernel_rfl) (R_indexA1 (k := .i64) (p := ad2) (n := ws.length) (c := c) (i := i / 64) (by kernel_rfl) (by kernel_rfl) Tryd.underlying75 (by kernel_rfl) (by omega) (by omega)) ?_
  refine ql (.int .u64 (rdI ws (i / 64))) (by kernel_rfl) (R_load (p := ad2.add (i / 64).toNat) (by kernel_rfl) (by kernel_rfl) (by kernel_rfl) (HS.old0 (hr.at_ (ci_rd (i := i / 64) (by omega) (by omega))))) ?_
  refine ql (.int .i64 i) (by kernel_rfl) (by kernel_rfl) ?_
  refine ql (.int .i64 (i % 64)) (by kernel_rfl) (R_rem2 (by kernel_rfl) (by kernel_rfl) (by omega) (by omega) (by decide)) ?_
  refine ql (.int .u64 (shrW (rdI ws (i / 64)) (i % 64))) (by kernel_rfl) (R_shr (k2 := .i64) (by kernel_rfl) (by kernel_rfl) (hR.rd_at h0 h1) (by omega) (by omega)) ?_
  refine ql (.int .u64 (andW (shrW (rdI ws (i / 64)) (i % 64)) 1)) (by kernel_rfl) (R_and (by kernel_rfl) (by kernel_rfl) (u_shr (hR.rd_at h0 h1)) (u_lit 1 (by decide))) ?_
  refine ql (.bool false) (by kernel_rfl) (R_beq (b := (andW (shrW (rdI ws (i / 64)) (i % 64)) 1 == (1 : Int))) (by kernel_rfl) (beq_f (hR.has_f h0 h1 hi))) ?_
  refine ql (.bool false) (by kernel_rfl) (by kernel_rfl) ?_
  refine ql (.bool false) (by kernel_rfl) (by kernel_rfl) ?_
  refine wpList_nil ?_
  refine x_then ?_
  refine wp_ret ?_
  refine ret_ (.bool false) (by kernel_rfl) ?_
  exact ⟨rfl, HS⟩


def TabAt64 (W : World) : Prop := ∀ j, j < 64 → W.cell? ⟨0, j, none⟩ = some (.int .u8 ((Lib.deBruijn64tab.getD j 0 : Nat) : Int))

set_option maxRecDepth 100000 in
set_option maxHeartbeats 1000000 in
theorem tz64 (x : Nat) (W : World) (hx : x < 18446744073709551616) (h0 : x ≠ 0) (hT : TabAt64 W) : Calls Tryd.prog 59 #[.int .u64 (x : Int)] W fun e W' => e = .returned (.int .i64 ((Lib.ctz 64 x : Nat) : Int)) ∧ St W (owns []) W' [] := by
  have HS : St W (owns []) W [] := St.start W _
  obtain ⟨hlow, hk⟩ := Lib.lowest_bit 64 x h0 hx
  obtain ⟨hi, htab⟩ := Lib.deBruijn64_at _ hk
  have hcell := hT _ hi
  rw [htab] at hcell
  refine calls_enter [.int .u64 (x : Int), undef, undef, undef, undef, undef, undef, undef, undef, undef, undef, undef, undef, undef] Tryd.func59 rfl (by kernel_rfl) ?_
  refine wp_seq ?_
  refine wp_region_lit ?_
  refine ql (.int .i64 0) (by kernel_rfl) (by kernel_rfl) ?_
  refine wpList_nil ?_
  refine x_then ?_
  refine wp_seq ?_
  refine wp_seq ?_
  refine wp_region_lit ?_
  refine ql (.int .u64 (x : Int)) (by kernel_rfl) (by kernel_rfl) ?_
  refine ql (.bool false) (by kernel_rfl) (R_beq (b := ((x : Int) == (0 : Int))) (by kernel_rfl) (beq_f (by omega))) ?_
  refine wpList_nil ?_
  refine x_then ?_
  refine wp_cond_false (by kernel_rfl) ?_
  refine wp_skip ?_
  refine x_then ?_
  refine wp_seq ?_
  refine wp_region_lit ?_
  refine ql (.int .u64 (x : Int)) (by kernel_rfl) (by kernel_rfl) ?_
  refine ql (.int .u64 (x : Int)) (by kernel_rfl) (by kernel_rfl) ?_
  refine ql (.int .u64 ((18446744073709551616 - x : Nat) : Int)) (by kernel_rfl) (R_negN (m := x) (by kernel_rfl) h0 hx) ?_
  refine ql (.int .u64 ((2 ^ Lib.ctz 64 x : Nat) : Int)) (by kernel_rfl) (by rw [← hlow]; exact R_andN (m := x) (k := 18446744073709551616 - x) (by kernel_rfl) (by kernel_rfl) hx (by omega)) ?_
  refine ql (.int .u64 ((2 ^ Lib.ctz 64 x * 285870213051353865 % 18446744073709551616 : Nat) : Int)) (by kernel_rfl) (R_mulN (m := 2 ^ Lib.ctz 64 x) (k := 285870213051353865) (by kernel_rfl) (by kernel_rfl)) ?_
  refine ql (.int .u64 (((2 ^ Lib.ctz 64 x * 285870213051353865 % 18446744073709551616 / 288230376151711744) : Nat) : Int)) (by kernel_rfl) (by have h9 := R_shrN (P := Tryd.prog) (W := W) (m := 2 ^ Lib.ctz 64 x * 285870213051353865 % 18446744073709551616) (k := 58) (k2 := .u64) (dst := some 10) (t := 74) (x := (Go.Operand.tmp 9)) (y := (Go.Operand.const (Go.Value.int Go.IntKind.u64 58))) (t2 := 99) (ty := 74) (ps := "bits.go:105") (af := #[{ on := 4, ground := Go.Ground.data }]) (gd := none) (a := Fr [.int .u64 (x : Int), undef, .int .i64 0, .int .u64 (x : Int), .bool false, .int .u64 (x : Int), .int .u64 (x : Int), .int .u64 ((18446744073709551616 - x : Nat) : Int), .int .u64 ((2 ^ Lib.ctz 64 x : Nat) : Int), .int .u64 ((2 ^ Lib.ctz 64 x * 285870213051353865 % 18446744073709551616 : Nat) : Int), undef, undef, undef, undef]) (by kernel_rfl) (by kernel_rfl) (Nat.mod_lt _ (by decide)) (by decide); rw [Nat.shiftRight_eq_div_pow] at h9; exact h9) ?_
  refine ql (.pointer (some ⟨0, (2 ^ Lib.ctz 64 x * 285870213051353865 % 18446744073709551616 / 288230376151711744), none⟩)) (by kernel_rfl) (R_idxArr (g := 0) (m := (2 ^ Lib.ctz 64 x * 285870213051353865 % 18446744073709551616 / 288230376151711744)) (k := .u64) (by kernel_rfl) (by kernel_rfl) Tryd.underlying104 (by kernel_rfl) hi) ?_
  refine ql (.int .u8 ((Lib.ctz 64 x : Nat) : Int)) (by kernel_rfl) (R_load (p := ⟨0, (2 ^ Lib.ctz 64 x * 285870213051353865 % 18446744073709551616 / 288230376151711744), none⟩) (by kernel_rfl) (by kernel_rfl) (by kernel_rfl) (HS.old0 hcell)) ?_
  refine ql (.int .i64 ((Lib.ctz 64 x : Nat) : Int)) (by kernel_rfl) (R_int (by kernel_rfl) (w64 (by omega))) ?_
  refine ql (.int .i64 ((Lib.ctz 64 x : Nat) : Int)) (by kernel_rfl) (by kernel_rfl) ?_
  refine wpList_nil ?_
  refine x_then ?_
  refine wp_ret ?_
  refine ret_ (.int .i64 ((Lib.ctz 64 x : Nat) : Int)) (by kernel_rfl) ?_
  exact ⟨rfl, HS⟩


theorem rep_zero {n : Int} {k : Nat} (h0 : 0 ≤ n) (hk : (k : Int) = (n + 63) / 64) : Rep (List.replicate k 0) n [] := by
  refine ⟨by rw [List.length_replicate]; exact hk, h0, fun w hw => ?_, fun i h0 h1 => ?_, List.Pairwise.nil, fun x hx => by simp at hx⟩
  · obtain ⟨_, rfl⟩ := List.mem_replicate.1 hw
    exact u_lit 0 (by decide)
  · have e : rdI (List.replicate k 0) (i / 64) = 0 := by
      unfold rdI
      rw [List.getD_eq_getElem?_getD, List.getElem?_replicate]
      split <;> rfl
    unfold bitI tb
    rw [e, show (0 : Int).toNat = 0 from rfl, Nat.zero_testBit]
    simp

set_option maxRecDepth 100000 in
set_option maxHeartbeats 1000000 in
theorem dnew_arg (n : Int) (W : World) (hn : n < 0) : Calls Tryd.prog 40 #[.int .i64 n] W fun e W' => e = .returned (.tuple #[.pointer none, .int .i64 2]) ∧ St W (owns []) W' [] := by
  have HS : St W (owns []) W [] := St.start W _
  refine calls_enter [.int .i64 n, undef, undef, undef, undef, undef, undef, undef, undef, undef, undef, undef, undef, undef, undef, undef, undef, undef] Tryd.func40 rfl (by kernel_rfl) ?_
  refine wp_seq ?_
  refine wp_region_lit ?_
  refine ql (.pointer none) (by kernel_rfl) (by kernel_rfl) ?_
  refine ql (.int .i64 0) (by kernel_rfl) (by kernel_rfl) ?_
  refine wpList_nil ?_
  refine x_then ?_
  refine wp_seq ?_
  refine wp_block ?_
  refine wp_seq ?_
  refine wp_region_lit ?_
  refine ql (.int .i64 n) (by kernel_rfl) (by kernel_rfl) ?_
  refine ql (.bool true) (by kernel_rfl) (R_bool (p := n < (0 : Int)) (by kernel_rfl) (by omega)) ?_
  refine ql (.bool true) (by kernel_rfl) (by kernel_rfl) ?_
  refine wpList_nil ?_
  refine x_then ?_
  refine wp_cond_true (by kernel_rfl) ?_
  refine wp_seq ?_
  refine wp_region_lit ?_
  refine ql (.pointer none) (by kernel_rfl) (by kernel_rfl) ?_
  refine ql (.int .i64 2) (by kernel_rfl) (by kernel_rfl) ?_
  refine wpList_nil ?_
  refine x_then ?_
  refine wp_ret ?_
  refine x_inbR ?_
  refine x_thenR ?_
  refine ret_ (.tuple #[.pointer none, .int .i64 2]) (by kernel_rfl) ?_
  exact ⟨rfl, HS⟩

set_option maxRecDepth 100000 in
set_option maxHeartbeats 1000000 in
theorem dnew_ok (n : Int) (W : World) (h0 : 0 ≤ n) (h1 : n ≤ 1048576) : Calls Tryd.prog 40 #[.int .i64 n] W fun e W' => ∃ g a c ws, e = .returned (.tuple #[.pointer (some ⟨g, 0, none⟩), .int .i64 0]) ∧ St W (owns []) W' [blk g [.slice (some ⟨a, 0, none⟩) ws.length c, .int .i64 n] 77, row (some ⟨a, 0, none⟩) ws.length c (ci .u64 ws) 74 1] ∧ Rep ws n [] := by
  have HS : St W (owns []) W [] := St.start W _
  refine calls_enter [.int .i64 n, undef, undef, undef, undef, undef, undef, undef, undef, undef, undef, undef, undef, undef, undef, undef, undef, undef] Tryd.func40 rfl (by kernel_rfl) ?_
  refine wp_seq ?_
  refine wp_region_lit ?_
  refine ql (.pointer none) (by kernel_rfl) (by kernel_rfl) ?_
  refine ql (.int .i64 0) (by kernel_rfl) (by kernel_rfl) ?_
  refine wpList_nil ?_
  refine x_then ?_
  refine wp_seq ?_
  refine wp_block ?_
  refine wp_seq ?_
  refine wp_region_lit ?_
  refine ql (.int .i64 n) (by kernel_rfl) (by kernel_rfl) ?_
  refine ql (.bool false) (by kernel_rfl) (R_nbool (p := n < (0 : Int)) (by kernel_rfl) (by omega)) ?_
  refine ql (.bool false) (by kernel_rfl) (by kernel_rfl) ?_
  refine wpList_nil ?_
  refine x_then ?_
  refine wp_cond_false (by kernel_rfl) ?_
  refine wp_seq ?_
  refine wp_region_lit ?_
  refine ql (.int .i64 n) (by kernel_rfl) (by kernel_rfl) ?_
  refine ql (.bool false) (by kernel_rfl) (R_nbool (p := n > (1048576 : Int)) (by kernel_rfl) (by omega)) ?_
  refine ql (.bool false) (by kernel_rfl) (by kernel_rfl) ?_
  refine wpList_nil ?_
  refine x_then ?_
  refine wp_cond_false (by kernel_rfl) ?_
  refine wp_skip ?_
  refine x_inb ?_
  refine x_then ?_
  refine wp_seq ?_
  refine wp_region_lit ?_
  refine ql (.int .i64 n) (by kernel_rfl) (by kernel_rfl) ?_
  refine ql (.int .i64 (n + 64)) (by kernel_rfl) (R_int (by kernel_rfl) (w64 (by omega))) ?_
  refine ql (.int .i64 ((n + 64) - 1)) (by kernel_rfl) (R_int (by kernel_rfl) (w64 (by omega))) ?_
  refine ql (.int .i64 (((n + 64) - 1) / 64)) (by kernel_rfl) (R_quo (by kernel_rfl) (by kernel_rfl) (by omega) (by omega) (by decide)) ?_
  refine km HS ((((n + 64) - 1) / 64).toNat) [.int .u64 0] 8 (by kernel_rfl) (k_eq (k := .i64) (m := ((n + 64) - 1) / 64) (by kernel_rfl) (by omega)) (k_eq (k := .i64) (m := ((n + 64) - 1) / 64) (by kernel_rfl) (by omega)) Tryd.underlying75 (by kernel_rfl) (by kernel_rfl) (by kernel_rfl) (by decide) (by omega) (by omega) ?_
  intro g1 W2 H_
  replace HS : St W (owns []) W2 [row (some ⟨g1, 0, none⟩) ((((n + 64) - 1) / 64).toNat) ((((n + 64) - 1) / 64).toNat) (ci .u64 (List.replicate ((((n + 64) - 1) / 64).toNat) 0)) 74 1] := H_.cast_ (by rw [ci_rep]; rfl)
  clear H_
  have rlg1 : (List.replicate ((((n + 64) - 1) / 64).toNat) (0 : Int)).length = (((n + 64) - 1) / 64).toNat := List.length_replicate
  refine ql (.int .i64 n) (by kernel_rfl) (by kernel_rfl) ?_
  refine ql (.agg #[.slice (some ⟨g1, 0, none⟩) ((((n + 64) - 1) / 64).toNat) ((((n + 64) - 1) / 64).toNat), .int .i64 n]) (by kernel_rfl) (by kernel_rfl) ?_
  refine kb HS [.slice (some ⟨g1, 0, none⟩) ((((n + 64) - 1) / 64).toNat) ((((n + 64) - 1) / 64).toNat), .int .i64 n] 77 (fun g => .pointer (some ⟨g, 0, none⟩)) (by kernel_rfl) (by kernel_rfl) ?_
  intro g3 W4 H_
  replace HS : St W (owns []) W4 [blk g3 [.slice (some ⟨g1, 0, none⟩) ((((n + 64) - 1) / 64).toNat) ((((n + 64) - 1) / 64).toNat), .int .i64 n] 77, row (some ⟨g1, 0, none⟩) ((((n + 64) - 1) / 64).toNat) ((((n + 64) - 1) / 64).toNat) (ci .u64 (List.replicate ((((n + 64) - 1) / 64).toNat) 0)) 74 1] := H_
  clear H_
  refine ql (.pointer (some ⟨g3, 0, none⟩)) (by kernel_rfl) (by kernel_rfl) ?_
  refine ql (.int .i64 0) (by kernel_rfl) (by kernel_rfl) ?_
  refine wpList_nil ?_
  refine x_then ?_
  refine wp_ret ?_
  refine ret_ (.tuple #[.pointer (some ⟨g3, 0, none⟩), .int .i64 0]) (by kernel_rfl) ?_
  obtain ⟨ws, hws⟩ : ∃ z_ : List Int, z_ = List.replicate ((((n + 64) - 1) / 64).toNat) 0 := ⟨_, rfl⟩
  have hR : Rep ws n [] := by rw [hws]; exact rep_zero h0 (by omega)
  have hl : ((((n + 64) - 1) / 64).toNat) = ws.length := by rw [hws, List.length_replicate]
  rw [← hws] at HS
  rw [hl] at HS
  exact ⟨_, _, _, ws, by first | rfl | (rw [hl]), HS, hR⟩

set_option maxRecDepth 100000 in
set_option maxHeartbeats 1000000 in
theorem dadd_new (g c : Nat) (A : Option Addr) (ws : List Int) (n : Int) (L : List Int) (i : Int) (W : World) (M : Nat → Prop) (HS : St W M W [blk g [.slice A ws.length c, .int .i64 n] 77, row A ws.length c (ci .u64 ws) 74 1]) (hR : Rep ws n L) (hn : n ≤ 1048576) (h0 : 0 ≤ i) (h1 : i < n) (hi : i ∉ L) : Calls Tryd.prog 18 #[.pointer (some ⟨g, 0, none⟩), .int .i64 i] W fun e W' => ∃ ws', e = .returned (.bool true) ∧ St W M W' [blk g [.slice A ws'.length c, .int .i64 n] 77, row A ws'.length c (ci .u64 ws') 74 1] ∧ Rep ws' n (ins i L) := by
  have hix := hR.idx h0 h1
  refine calls_enter [.pointer (some ⟨g, 0, none⟩), .int .i64 i, undef, undef, undef, undef, undef, undef, undef, undef, undef, undef, undef, undef, undef, undef, undef, undef, undef, undef, undef, undef, undef, undef, undef, undef, undef] Tryd.func18 rfl (by kernel_rfl) ?_
  refine wp_seq ?_
  refine wp_region_lit ?_
  refine ql (.bool false) (by kernel_rfl) (by kernel_rfl) ?_
  refine wpList_nil ?_
  refine x_then ?_
  refine wp_seq ?_
  refine wp_seq ?_
  refine wp_region_lit ?_
  refine ql (.pointer (some ⟨g, 0, none⟩)) (by kernel_rfl) (by kernel_rfl) ?_
  refine ql (.int .i64 i) (by kernel_rfl) (by kernel_rfl) ?_
  refine qc (f := 45) (args := #[.pointer (some ⟨g, 0, none⟩), .int .i64 i]) (by kernel_rfl) (R_call #[.pointer (some ⟨g, 0, none⟩), .int .i64 i] Tryd.func45 (by kernel_rfl) (by kernel_rfl) (by kernel_rfl)) ?_
  refine (dis_t _ _ i _ (HS.cell (i := 0) (j := 1) rfl rfl) h0 h1).mono ?_
  rintro e W1 ⟨rfl, H_⟩
  refine ⟨_, rfl, ?_⟩
  replace HS : St W M W1 [blk g [.slice A ws.length c, .int .i64 n] 77, row A ws.length c (ci .u64 ws) 74 1] := HS.join (F := []) (G := []) H_
  clear H_
  refine ql (.bool false) (by kernel_rfl) (by kernel_rfl) ?_
  refine ql (.bool false) (by kernel_rfl) (by kernel_rfl) ?_
  refine ql (.pointer (some ⟨g, 0, none⟩)) (by kernel_rfl) (by kernel_rfl) ?_
  refine ql (.int .i64 i) (by kernel_rfl) (by kernel_rfl) ?_
  refine qc (f := 19) (args := #[.pointer (some ⟨g, 0, none⟩), .int .i64 i]) (by kernel_rfl) (R_call #[.pointer (some ⟨g, 0, none⟩), .int .i64 i] Tryd.func19 (by kernel_rfl) (by kernel_rfl) (by kernel_rfl)) ?_
  refine (dhas_f g c A ws n L i _ (HS.cell (i := 0) (j := 0) rfl rfl) (HS.cell (i := 0) (j := 1) rfl rfl) (Rd.row HS (i := 1) rfl) hR hn h0 h1 hi).mono ?_
  rintro e W2 ⟨rfl, H_⟩
  refine ⟨_, rfl, ?_⟩
  replace HS : St W M W2 [blk g [.slice A ws.length c, .int .i64 n] 77, row A ws.length c (ci .u64 ws) 74 1] := HS.join (F := []) (G := []) H_
  clear H_
  refine ql (.bool false) (by kernel_rfl) (by kernel_rfl) ?_
  refine wpList_nil ?_
  refine x_then ?_
  refine wp_cond_false (by kernel_rfl) ?_
  refine wp_skip ?_
  refine x_then ?_
  refine wp_seq ?_
  refine rg_still HS 13 (by kernel_rfl) (by kernel_rfl) ?_
  intro W3 H_ HK_
  simp only [List.take_succ_cons, List.take_zero, List.drop_succ_cons, List.drop_zero]
  replace HS : St W M W3 [blk g [.slice A ws.length c, .int .i64 n] 77, row A ws.length c (ci .u64 ws) 74 1] := H_
  clear H_
  clear HK_
  refine qs (.pointer (some ⟨g, 0, none⟩)) (by kernel_rfl) (by kernel_rfl) ?_
  refine qs (.pointer (some ⟨g, 0, none⟩)) (by kernel_rfl) (by kernel_rfl) ?_
  refine qs (.pointer (some ⟨g, 0, none⟩)) (by kernel_rfl) (by kernel_rfl) ?_
  refine qs (.slice A ws.length c) (by kernel_rfl) (R_load (p := ⟨g, 0, none⟩) (by kernel_rfl) (by kernel_rfl) (by kernel_rfl) (HS.cell (i := 0) (j := 0) rfl rfl)) ?_
  refine qs (.int .i64 i) (by kernel_rfl) (by kernel_rfl) ?_
  refine qs (.int .i64 (i / 64)) (by kernel_rfl) (R_quo (by kernel_rfl) (by kernel_rfl) (by omega) (by omega) (by decide)) ?_
  obtain ⟨g4, rfl⟩ := St.rsome HS (i := 1) rfl (by omega)
  refine qs (.pointer (some ⟨g4, (i / 64).toNat, none⟩)) (by kernel_rfl) (R_index1 (k := .i64) (g := g4) (n := ws.length) (c := c) (i := i / 64) (by kernel_rfl) (by kernel_rfl) Tryd.underlying75 (by kernel_rfl) (by omega) (by omega)) ?_
  refine qs (.int .u64 (rdI ws (i / 64))) (by kernel_rfl) (R_load (p := ⟨g4, (i / 64).toNat, none⟩) (by kernel_rfl) (by kernel_rfl) (by kernel_rfl) (HS.rcell (i := 1) rfl (ci_rd (i := i / 64) (by omega) (by omega)))) ?_
  refine qs (.int .i64 i) (by kernel_rfl) (by kernel_rfl) ?_
  refine qs (.int .i64 (i % 64)) (by kernel_rfl) (R_rem2 (by kernel_rfl) (by kernel_rfl) (by omega) (by omega) (by decide)) ?_
  refine qs (.int .u64 (shlW 1 (i % 64))) (by kernel_rfl) (R_shl (k2 := .i64) (by kernel_rfl) (by kernel_rfl) (u_lit 1 (by decide)) (by omega) (by omega)) ?_
  refine qs (.int .u64 (orW (rdI ws (i / 64)) (shlW 1 (i % 64)))) (by kernel_rfl) (R_or (by kernel_rfl) (by kernel_rfl) (hR.rd_at h0 h1) u_shl) ?_
  refine qs (.pointer (some ⟨g4, (i / 64).toNat, none⟩)) (by kernel_rfl) (R_index1 (k := .i64) (g := g4) (n := ws.length) (c := c) (i := i / 64) (by kernel_rfl) (by kernel_rfl) Tryd.underlying75 (by kernel_rfl) (by omega) (by omega)) ?_
  refine wpStill_nil ?_
  refine kr (v := .int .u64 (orW (rdI ws (i / 64)) (shlW 1 (i % 64)))) HS 1 rfl ((i / 64).toNat) [.int .u64 (orW (rdI ws (i / 64)) (shlW 1 (i % 64)))] (by kernel_rfl) (by kernel_rfl) (by kernel_rfl) (by kernel_rfl) (by kernel_rfl) (one_ (by kernel_rfl)) (by rw [ci_len]; first | omega | (simp only [List.length_singleton]; omega)) rfl ?_
  intro W5 H_
  obtain ⟨xs6, xs6_⟩ : ∃ z_ : List Int, z_ = (ws).set (i / 64).toNat (orW (rdI ws (i / 64)) (shlW 1 (i % 64))) := ⟨_, rfl⟩
  replace HS : St W M W5 [blk g [.slice (some ⟨g4, 0, none⟩) ws.length c, .int .i64 n] 77, row (some ⟨g4, 0, none⟩) ws.length c (ci .u64 xs6) 74 1] := H_.cast_ (by rw [xs6_, ← ci_set]; rfl)
  clear H_
  have xs6l : xs6.length = ws.length := by rw [xs6_, List.length_set]; first | done | omega
  refine wpList_nil ?_
  refine x_then ?_
  refine wp_seq ?_
  refine wp_region_lit ?_
  refine ql (.bool true) (by kernel_rfl) (by kernel_rfl) ?_
  refine wpList_nil ?_
  refine x_then ?_
  refine wp_ret ?_
  refine ret_ (.bool true) (by kernel_rfl) ?_
  have hq : Rep xs6 n (ins i L) := by rw [xs6_]; exact hR.add h0 h1 hi
  rw [← xs6l] at HS
  exact ⟨xs6, rfl, HS, hq⟩

set_option maxRecDepth 100000 in
set_option maxHeartbeats 1000000 in
theorem dadd_old (g c : Nat) (A : Option Addr) (ws : List Int) (n : Int) (L : List Int) (i : Int) (W : World) (M : Nat → Prop) (HS : St W M W [blk g [.slice A ws.length c, .int .i64 n] 77, row A ws.length c (ci .u64 ws) 74 1]) (hR : Rep ws n L) (hn : n ≤ 1048576) (hi : i ∈ L) : Calls Tryd.prog 18 #[.pointer (some ⟨g, 0, none⟩), .int .i64 i] W fun e W' => e = .returned (.bool false) ∧ St W M W' [blk g [.slice A ws.length c, .int .i64 n] 77, row A ws.length c (ci .u64 ws) 74 1] := by
  refine calls_enter [.pointer (some ⟨g, 0, none⟩), .int .i64 i, undef, undef, undef, undef, undef, undef, undef, undef, undef, undef, undef, undef, undef, undef, undef, undef, undef, undef, undef, undef, undef, undef, undef, undef, undef] Tryd.func18 rfl (by kernel_rfl) ?_
  refine wp_seq ?_
  refine wp_region_lit ?_
  refine ql (.bool false) (by kernel_rfl) (by kernel_rfl) ?_
  refine wpList_nil ?_
  refine x_then ?_
  refine wp_seq ?_
  refine wp_seq ?_
  refine wp_region_lit ?_
  refine ql (.pointer (some ⟨g, 0, none⟩)) (by kernel_rfl) (by kernel_rfl) ?_
  refine ql (.int .i64 i) (by kernel_rfl) (by kernel_rfl) ?_
  refine qc (f := 45) (args := #[.pointer (some ⟨g, 0, none⟩), .int .i64 i]) (by kernel_rfl) (R_call #[.pointer (some ⟨g, 0, none⟩), .int .i64 i] Tryd.func45 (by kernel_rfl) (by kernel_rfl) (by kernel_rfl)) ?_
  refine (dis_t _ _ i _ (HS.cell (i := 0) (j := 1) rfl rfl) (hR.lim i hi).1 (hR.lim i hi).2).mono ?_
  rintro e W1 ⟨rfl, H_⟩
  refine ⟨_, rfl, ?_⟩
  replace HS : St W M W1 [blk g [.slice A ws.length c, .int .i64 n] 77, row A ws.length c (ci .u64 ws) 74 1] := HS.join (F := []) (G := []) H_
  clear H_
  refine ql (.bool false) (by kernel_rfl) (by kernel_rfl) ?_
  refine ql (.bool false) (by kernel_rfl) (by kernel_rfl) ?_
  refine ql (.pointer (some ⟨g, 0, none⟩)) (by kernel_rfl) (by kernel_rfl) ?_
  refine ql (.int .i64 i) (by kernel_rfl) (by kernel_rfl) ?_
  refine qc (f := 19) (args := #[.pointer (some ⟨g, 0, none⟩), .int .i64 i]) (by kernel_rfl) (R_call #[.pointer (some ⟨g, 0, none⟩), .int .i64 i] Tryd.func19 (by kernel_rfl) (by kernel_rfl) (by kernel_rfl)) ?_
  refine (dhas_t g c A ws n L i _ (HS.cell (i := 0) (j := 0) rfl rfl) (HS.cell (i := 0) (j := 1) rfl rfl) (Rd.row HS (i := 1) rfl) hR hn hi).mono ?_
  rintro e W2 ⟨rfl, H_⟩
  refine ⟨_, rfl, ?_⟩
  replace HS : St W M W2 [blk g [.slice A ws.length c, .int .i64 n] 77, row A ws.length c (ci .u64 ws) 74 1] := HS.join (F := []) (G := []) H_
  clear H_
  refine ql (.bool true) (by kernel_rfl) (by kernel_rfl) ?_
  refine wpList_nil ?_
  refine x_then ?_
  refine wp_cond_true (by kernel_rfl) ?_
  refine wp_seq ?_
  refine wp_region_lit ?_
  refine ql (.bool false) (by kernel_rfl) (by kernel_rfl) ?_
  refine wpList_nil ?_
  refine x_then ?_
  refine wp_ret ?_
  refine x_thenR ?_
  refine ret_ (.bool false) (by kernel_rfl) ?_
  exact ⟨rfl, HS⟩

set_option maxRecDepth 100000 in
set_option maxHeartbeats 1000000 in
theorem dadd_out (g c : Nat) (A : Option Addr) (ws : List Int) (n : Int) (L : List Int) (i : Int) (W : World) (M : Nat → Prop) (HS : St W M W [blk g [.slice A ws.length c, .int .i64 n] 77, row A ws.length c (ci .u64 ws) 74 1]) (hR : Rep ws n L) (hn : n ≤ 1048576) (ho : i < 0 ∨ n ≤ i) : Calls Tryd.prog 18 #[.pointer (some ⟨g, 0, none⟩), .int .i64 i] W fun e W' => e = .returned (.bool false) ∧ St W M W' [blk g [.slice A ws.length c, .int .i64 n] 77, row A ws.length c (ci .u64 ws) 74 1] := by
  refine calls_enter [.pointer (some ⟨g, 0, none⟩), .int .i64 i, undef, undef, undef, undef, undef, undef, undef, undef, undef, undef, undef, undef, undef, undef, undef, undef, undef, undef, undef, undef, undef, undef, undef, undef, undef] Tryd.func18 rfl (by kernel_rfl) ?_
  refine wp_seq ?_
  refine wp_region_lit ?_
  refine ql (.bool false) (by kernel_rfl) (by kernel_rfl) ?_
  refine wpList_nil ?_
  refine x_then ?_
  refine wp_seq ?_
  refine wp_seq ?_
  refine wp_region_lit ?_
  refine ql (.pointer (some ⟨g, 0, none⟩)) (by kernel_rfl) (by kernel_rfl) ?_
  refine ql (.int .i64 i) (by kernel_rfl) (by kernel_rfl) ?_
  refine qc (f := 45) (args := #[.pointer (some ⟨g, 0, none⟩), .int .i64 i]) (by kernel_rfl) (R_call #[.pointer (some ⟨g, 0, none⟩), .int .i64 i] Tryd.func45 (by kernel_rfl) (by kernel_rfl) (by kernel_rfl)) ?_
  refine (dis_f _ _ i _ (HS.cell (i := 0) (j := 1) rfl rfl) ho).mono ?_
  rintro e W1 ⟨rfl, H_⟩
  refine ⟨_, rfl, ?_⟩
  replace HS : St W M W1 [blk g [.slice A ws.length c, .int .i64 n] 77, row A ws.length c (ci .u64 ws) 74 1] := HS.join (F := []) (G := []) H_
  clear H_
  refine ql (.bool true) (by kernel_rfl) (by kernel_rfl) ?_
  refine ql (.bool true) (by kernel_rfl) (by kernel_rfl) ?_
  refine qln (by kernel_rfl) ?_
  refine qln (by kernel_rfl) ?_
  refine qln (by kernel_rfl) ?_
  refine ql (.bool true) (by kernel_rfl) (by kernel_rfl) ?_
  refine wpList_nil ?_
  refine x_then ?_
  refine wp_cond_true (by kernel_rfl) ?_
  refine wp_seq ?_
  refine wp_region_lit ?_
  refine ql (.bool false) (by kernel_rfl) (by kernel_rfl) ?_
  refine wpList_nil ?_
  refine x_then ?_
  refine wp_ret ?_
  refine x_thenR ?_
  refine ret_ (.bool false) (by kernel_rfl) ?_
  exact ⟨rfl, HS⟩

set_option maxRecDepth 100000 in
set_option maxHeartbeats 1000000 in
theorem ddel_old (g c : Nat) (A : Option Addr) (ws : List Int) (n : Int) (L : List Int) (i : Int) (W : World) (M : Nat → Prop) (HS : St W M W [blk g [.slice A ws.length c, .int .i64 n] 77, row A ws.length c (ci .u64 ws) 74 1]) (hR : Rep ws n L) (hn : n ≤ 1048576) (hi : i ∈ L) : Calls Tryd.prog 42 #[.pointer (some ⟨g, 0, none⟩), .int .i64 i] W fun e W' => ∃ ws', e = .returned (.bool true) ∧ St W M W' [blk g [.slice A ws'.length c, .int .i64 n] 77, row A ws'.length c (ci .u64 ws') 74 1] ∧ Rep ws' n (L.filter (fun x => x ≠ i)) := by
  have h0 := (hR.lim i hi).1
  have h1 := (hR.lim i hi).2
  have hix := hR.idx h0 h1
  refine calls_enter [.pointer (some ⟨g, 0, none⟩), .int .i64 i, undef, undef, undef, undef, undef, undef, undef, undef, undef, undef, undef, undef, undef, undef, undef, undef, undef, undef, undef, undef] Tryd.func42 rfl (by kernel_rfl) ?_
  refine wp_seq ?_
  refine wp_region_lit ?_
  refine ql (.bool false) (by kernel_rfl) (by kernel_rfl) ?_
  refine wpList_nil ?_
  refine x_then ?_
  refine wp_seq ?_
  refine wp_seq ?_
  refine wp_region_lit ?_
  refine ql (.pointer (some ⟨g, 0, none⟩)) (by kernel_rfl) (by kernel_rfl) ?_
  refine ql (.int .i64 i) (by kernel_rfl) (by kernel_rfl) ?_
  refine qc (f := 19) (args := #[.pointer (some ⟨g, 0, none⟩), .int .i64 i]) (by kernel_rfl) (R_call #[.pointer (some ⟨g, 0, none⟩), .int .i64 i] Tryd.func19 (by kernel_rfl) (by kernel_rfl) (by kernel_rfl)) ?_
  refine (dhas_t g c A ws n L i _ (HS.cell (i := 0) (j := 0) rfl rfl) (HS.cell (i := 0) (j := 1) rfl rfl) (Rd.row HS (i := 1) rfl) hR hn hi).mono ?_
  rintro e W1 ⟨rfl, H_⟩
  refine ⟨_, rfl, ?_⟩
  replace HS : St W M W1 [blk g [.slice A ws.length c, .int .i64 n] 77, row A ws.length c (ci .u64 ws) 74 1] := HS.join (F := []) (G := []) H_
  clear H_
  refine ql (.bool false) (by kernel_rfl) (by kernel_rfl) ?_
  refine wpList_nil ?_
  refine x_then ?_
  refine wp_cond_false (by kernel_rfl) ?_
  refine wp_skip ?_
  refine x_then ?_
  refine wp_seq ?_
  refine rg_still HS 13 (by kernel_rfl) (by kernel_rfl) ?_
  intro W2 H_ HK_
  simp only [List.take_succ_cons, List.take_zero, List.drop_succ_cons, List.drop_zero]
  replace HS : St W M W2 [blk g [.slice A ws.length c, .int .i64 n] 77, row A ws.length c (ci .u64 ws) 74 1] := H_
  clear H_
  clear HK_
  refine qs (.pointer (some ⟨g, 0, none⟩)) (by kernel_rfl) (by kernel_rfl) ?_
  refine qs (.pointer (some ⟨g, 0, none⟩)) (by kernel_rfl) (by kernel_rfl) ?_
  refine qs (.pointer (some ⟨g, 0, none⟩)) (by kernel_rfl) (by kernel_rfl) ?_
  refine qs (.slice A ws.length c) (by kernel_rfl) (R_load (p := ⟨g, 0, none⟩) (by kernel_rfl) (by kernel_rfl) (by kernel_rfl) (HS.cell (i := 0) (j := 0) rfl rfl)) ?_
  refine qs (.int .i64 i) (by kernel_rfl) (by kernel_rfl) ?_
  refine qs (.int .i64 (i / 64)) (by kernel_rfl) (R_quo (by kernel_rfl) (by kernel_rfl) (by omega) (by omega) (by decide)) ?_
  obtain ⟨g3, rfl⟩ := St.rsome HS (i := 1) rfl (by omega)
  refine qs (.pointer (some ⟨g3, (i / 64).toNat, none⟩)) (by kernel_rfl) (R_index1 (k := .i64) (g := g3) (n := ws.length) (c := c) (i := i / 64) (by kernel_rfl) (by kernel_rfl) Tryd.underlying75 (by kernel_rfl) (by omega) (by omega)) ?_
  refine qs (.int .u64 (rdI ws (i / 64))) (by kernel_rfl) (R_load (p := ⟨g3, (i / 64).toNat, none⟩) (by kernel_rfl) (by kernel_rfl) (by kernel_rfl) (HS.rcell (i := 1) rfl (ci_rd (i := i / 64) (by omega) (by omega)))) ?_
  refine qs (.int .i64 i) (by kernel_rfl) (by kernel_rfl) ?_
  refine qs (.int .i64 (i % 64)) (by kernel_rfl) (R_rem2 (by kernel_rfl) (by kernel_rfl) (by omega) (by omega) (by decide)) ?_
  refine qs (.int .u64 (shlW 1 (i % 64))) (by kernel_rfl) (R_shl (k2 := .i64) (by kernel_rfl) (by kernel_rfl) (u_lit 1 (by decide)) (by omega) (by omega)) ?_
  refine qs (.int .u64 (anW (rdI ws (i / 64)) (shlW 1 (i % 64)))) (by kernel_rfl) (R_an (by kernel_rfl) (by kernel_rfl) (hR.rd_at h0 h1) u_shl) ?_
  refine qs (.pointer (some ⟨g3, (i / 64).toNat, none⟩)) (by kernel_rfl) (R_index1 (k := .i64) (g := g3) (n := ws.length) (c := c) (i := i / 64) (by kernel_rfl) (by kernel_rfl) Tryd.underlying75 (by kernel_rfl) (by omega) (by omega)) ?_
  refine wpStill_nil ?_
  refine kr (v := .int .u64 (anW (rdI ws (i / 64)) (shlW 1 (i % 64)))) HS 1 rfl ((i / 64).toNat) [.int .u64 (anW (rdI ws (i / 64)) (shlW 1 (i % 64)))] (by kernel_rfl) (by kernel_rfl) (by kernel_rfl) (by kernel_rfl) (by kernel_rfl) (one_ (by kernel_rfl)) (by rw [ci_len]; first | omega | (simp only [List.length_singleton]; omega)) rfl ?_
  intro W4 H_
  obtain ⟨xs5, xs5_⟩ : ∃ z_ : List Int, z_ = (ws).set (i / 64).toNat (anW (rdI ws (i / 64)) (shlW 1 (i % 64))) := ⟨_, rfl⟩
  replace HS : St W M W4 [blk g [.slice (some ⟨g3, 0, none⟩) ws.length c, .int .i64 n] 77, row (some ⟨g3, 0, none⟩) ws.length c (ci .u64 xs5) 74 1] := H_.cast_ (by rw [xs5_, ← ci_set]; rfl)
  clear H_
  have xs5l : xs5.length = ws.length := by rw [xs5_, List.length_set]; first | done | omega
  refine wpList_nil ?_
  refine x_then ?_
  refine wp_seq ?_
  refine wp_region_lit ?_
  refine ql (.bool true) (by kernel_rfl) (by kernel_rfl) ?_
  refine wpList_nil ?_
  refine x_then ?_
  refine wp_ret ?_
  refine ret_ (.bool true) (by kernel_rfl) ?_
  have hq : Rep xs5 n (L.filter (fun x => x ≠ i)) := by rw [xs5_]; exact hR.del hi
  rw [← xs5l] at HS
  exact ⟨xs5, rfl, HS, hq⟩

set_option maxRecDepth 100000 in
set_option maxHeartbeats 1000000 in
theorem dcount (g c : Nat) (A : Option Addr) (ws : List Int) (n : Int) (L : List Int) (W : World) (hz0 : W.cell? ⟨g, 0, none⟩ = some (.slice A ws.length c)) (hz1 : W.cell? ⟨g, 1, none⟩ = some (.int .i64 n)) (hr : Rd W A (ci .u64 ws)) (hR : Rep ws n L) (hn : n ≤ 1048576) : Calls Tryd.prog 22 #[.pointer (some ⟨g, 0, none⟩)] W fun e W' => e = .returned (.int .i64 (L.length : Int)) ∧ St W (owns []) W' [] := by
  have HS : St W (owns []) W [] := St.start W _
  have hlen := hR.len
  refine calls_enter [.pointer (some ⟨g, 0, none⟩), undef, undef, undef, undef, undef, undef, undef, undef, undef, undef, undef, undef, undef, undef, undef, undef, undef, undef, undef, undef, undef, undef] Tryd.func22 rfl (by kernel_rfl) ?_
  refine wp_seq ?_
  refine wp_region_lit ?_
  refine ql (.int .i64 0) (by kernel_rfl) (by kernel_rfl) ?_
  refine wpList_nil ?_
  refine x_then ?_
  refine wp_seq ?_
  refine wp_region_lit ?_
  refine ql (.int .i64 0) (by kernel_rfl) (by kernel_rfl) ?_
  refine wpList_nil ?_
  refine x_then ?_
  refine wp_seq ?_
  refine wp_seq ?_
  refine wp_region_lit ?_
  refine ql (.pointer (some ⟨g, 0, none⟩)) (by kernel_rfl) (by kernel_rfl) ?_
  refine ql (.bool true) (by kernel_rfl) (by kernel_rfl) ?_
  refine wpList_nil ?_
  refine x_then ?_
  refine wp_cond_true (by kernel_rfl) ?_
  refine wp_seq ?_
  refine wp_region_lit ?_
  refine ql (.pointer (some ⟨g, 0, none⟩)) (by kernel_rfl) (by kernel_rfl) ?_
  refine ql (.pointer (some ⟨g, 0, none⟩)) (by kernel_rfl) (by kernel_rfl) ?_
  refine ql (.pointer (some ⟨g, 0, none⟩)) (by kernel_rfl) (by kernel_rfl) ?_
  refine ql (.slice A ws.length c) (by kernel_rfl) (R_load (p := ⟨g, 0, none⟩) (by kernel_rfl) (by kernel_rfl) (by kernel_rfl) (HS.old0 hz0)) ?_
  refine ql (.int .i64 (ws.length : Int)) (by kernel_rfl) (by kernel_rfl) ?_
  refine ql (.int .i64 0) (by kernel_rfl) (by kernel_rfl) ?_
  refine wpList_nil ?_
  refine x_then ?_
  refine wp_block ?_
  refine wp_loop_ghost (fun kq a' w' => ∃ (J1 : Nat → Value) (k : Int) (m : Int) , a' = Fr [.pointer (some ⟨g, 0, none⟩), undef, .int .i64 0, .int .i64 m, undef, (J1 5), .pointer (some ⟨g, 0, none⟩), .bool true, .pointer (some ⟨g, 0, none⟩), .pointer (some ⟨g, 0, none⟩), .pointer (some ⟨g, 0, none⟩), .slice A ws.length c, .int .i64 (ws.length : Int), .int .i64 k, (J1 14), (J1 15), (J1 16), (J1 17), (J1 18), (J1 19), (J1 20), (J1 21), undef] ∧ kq = (ws.length - (k).toNat) ∧ (0 ≤ k) ∧ (k ≤ ws.length) ∧ (m = (cntW ws (k).toNat : Nat)) ∧ St W (owns []) w' []) (ws.length - ((0 : Int)).toNat) ⟨(fun k_ : Nat => List.getD [.pointer (some ⟨g, 0, none⟩), undef, .int .i64 0, .int .i64 0, undef, undef, .pointer (some ⟨g, 0, none⟩), .bool true, .pointer (some ⟨g, 0, none⟩), .pointer (some ⟨g, 0, none⟩), .pointer (some ⟨g, 0, none⟩), .slice A ws.length c, .int .i64 (ws.length : Int), .int .i64 0, undef, undef, undef, undef, undef, undef, undef, undef, undef] k_ undef), (0 : Int), (0 : Int), congrArg Fr (by kernel_rfl), rfl, by omega, by omega, rfl, HS⟩ ?_
  clear HS
  intro kq2 a' W3 hrel
  obtain ⟨J1, k, m, rfl, hk, k0, k1, hm, HS⟩ := hrel
  have hcl := cntW_le ws k.toNat
  refine wp_seq ?_
  refine wp_region_lit ?_
  by_cases hc4 : k < (ws.length : Int)
  · skip
    refine ql (.bool true) (by kernel_rfl) (R_bool (p := k < (ws.length : Int)) (by kernel_rfl) (hc4)) ?_
    refine wpList_nil ?_
    refine x_then ?_
    refine wp_seq ?_
    refine wp_cond_true (by kernel_rfl) ?_
    refine wp_skip ?_
    refine x_then ?_
    refine wp_seq ?_
    refine wp_block ?_
    refine wp_seq ?_
    refine wp_region_lit ?_
    obtain ⟨ad5, rfl⟩ := Rd.isSome_ hr (by rw [ci_len]; omega)
    refine ql (.pointer (some (ad5.add k.toNat))) (by kernel_rfl) (R_indexA1 (k := .i64) (p := ad5) (n := ws.length) (c := c) (i := k) (by kernel_rfl) (by kernel_rfl) Tryd.underlying75 (by kernel_rfl) (by omega) (by omega)) ?_
    refine ql (.int .u64 (rdI ws k)) (by kernel_rfl) (R_load (p := ad5.add k.toNat) (by kernel_rfl) (by kernel_rfl) (by kernel_rfl) (HS.old0 (hr.at_ (ci_rd (i := k) (by omega) (by omega))))) ?_
    refine ql (.int .u64 (rdI ws k)) (by kernel_rfl) (by kernel_rfl) ?_
    refine wpList_nil ?_
    refine x_then ?_
    refine wp_region_lit ?_
    refine ql (.int .i64 m) (by kernel_rfl) (by kernel_rfl) ?_
    refine ql (.int .u64 (rdI ws k)) (by kernel_rfl) (by kernel_rfl) ?_
    refine qc (f := 51) (args := #[.int .u64 (rdI ws k)]) (by kernel_rfl) (R_call #[.int .u64 (rdI ws k)] Tryd.func51 (by kernel_rfl) (by kernel_rfl) (by kernel_rfl)) ?_
    obtain ⟨wv, hwv, hwl⟩ := (hR.rd k0 (by omega : k < ws.length)).nat
    rw [hwv]
    refine (ones64 wv _ hwl).mono ?_
    rintro e W6 ⟨rfl, H_⟩
    refine ⟨_, rfl, ?_⟩
    replace HS : St W (owns []) W6 [] := HS.join (F := []) (G := []) H_
    clear H_
    have hpc := pc_le 64 wv
    refine ql (.int .i64 (m + ((pc 64 wv : Nat) : Int))) (by kernel_rfl) (R_int (by kernel_rfl) (w64 (by omega))) ?_
    refine ql (.int .i64 (m + ((pc 64 wv : Nat) : Int))) (by kernel_rfl) (by kernel_rfl) ?_
    refine wpList_nil ?_
    refine x_inb ?_
    refine x_then ?_
    refine wp_region_lit ?_
    refine ql (.int .i64 (k + 1)) (by kernel_rfl) (R_int (by kernel_rfl) (w64 (by omega))) ?_
    refine ql (.int .i64 (k + 1)) (by kernel_rfl) (by kernel_rfl) ?_
    refine wpList_nil ?_
    have hstep : cntW ws (k + 1).toNat = cntW ws k.toNat + pc 64 wv := by rw [show (k + 1).toNat = k.toNat + 1 by omega, cntW_succ, show ((k.toNat : Nat) : Int) = k by omega, hwv, Int.toNat_natCast]
    refine x_then ?_
    exact ⟨ws.length - (k + 1).toNat, by omega, (fun k_ : Nat => List.getD [.pointer (some ⟨g, 0, none⟩), undef, .int .i64 0, .int .i64 (m + ((pc 64 wv : Nat) : Int)), undef, .int .u64 (wv : Int), .pointer (some ⟨g, 0, none⟩), .bool true, .pointer (some ⟨g, 0, none⟩), .pointer (some ⟨g, 0, none⟩), .pointer (some ⟨g, 0, none⟩), .slice (some ad5) ws.length c, .int .i64 (ws.length : Int), .int .i64 (k + 1), .bool true, .pointer (some (ad5.add k.toNat)), .int .u64 (wv : Int), .int .i64 m, .int .u64 (wv : Int), .int .i64 ((pc 64 wv : Nat) : Int), .int .i64 (m + ((pc 64 wv : Nat) : Int)), .int .i64 (k + 1), undef] k_ undef), k + 1, m + ((pc 64 wv : Nat) : Int), congrArg Fr (by kernel_rfl), rfl, by omega, by omega, by omega, HS⟩
  · skip
    refine ql (.bool false) (by kernel_rfl) (R_nbool (p := k < (ws.length : Int)) (by kernel_rfl) (hc4)) ?_
    refine wpList_nil ?_
    refine x_then ?_
    refine wp_seq ?_
    refine wp_cond_false (by kernel_rfl) ?_
    refine wp_exit ?_
    refine x_thenE ?_
    refine x_thenE ?_
    refine x_hit ?_
    refine x_then ?_
    refine wp_seq ?_
    refine wp_region_lit ?_
    refine ql (.int .i64 m) (by kernel_rfl) (by kernel_rfl) ?_
    refine ql (.int .i64 m) (by kernel_rfl) (by kernel_rfl) ?_
    refine wpList_nil ?_
    refine x_then ?_
    refine wp_ret ?_
    refine ret_ (.int .i64 m) (by kernel_rfl) ?_
    have hk9 : k.toNat = ws.length := by omega
    rw [hk9, hR.cnt] at hm
    subst hm
    exact ⟨rfl, HS⟩


theorem TabAt64.old {W0 W : World} {M : Nat → Prop} {L : List Ent} (h : TabAt64 W0) (HS : St W0 M W L) (h0 : 0 < W0.heap.size) (hm : ¬ M 0) : TabAt64 W := fun j hj => by
  have h1 := h j hj
  unfold World.cell? at h1 ⊢
  rw [HS.kept.block 0 h0 hm]
  exact h1
theorem TabAt64.pos {W : World} (h : TabAt64 W) : 0 < W.heap.size := by
  have h1 := h 0 (by decide)
  unfold World.cell? at h1
  refine Nat.pos_of_ne_zero fun e => ?_
  have hn : W.heap[0]? = none := by rw [Array.getElem?_eq_none_iff]; omega
  rw [hn] at h1; simp at h1
theorem TabAt64.old0 {W0 W : World} {L : List Ent} (h : TabAt64 W0) (HS : St W0 (owns []) W L) : TabAt64 W := h.old HS h.pos (by rintro ⟨e, he, _⟩; cases he)
theorem nxt_max {L : List Int} {ws : List Int} {n : Int} (hR : Rep ws n L) (i : Int) : nxt L i = nxt L (max i 0) := by
  by_cases h : i < 0
  · rw [Int.max_eq_right (by omega)]; exact nxt_neg (fun x hx => (hR.lim x hx).1) h
  · rw [Int.max_eq_left (by omega)]
theorem nxt_rng {L : List Int} {ws : List Int} {n : Int} (hR : Rep ws n L) (i : Int) : -1 ≤ nxt L i ∧ nxt L i ≤ n := by
  unfold nxt
  cases e : L.find? (fun x => decide (i ≤ x)) with
  | none => have := hR.n0; simp; omega
  | some z => have := hR.lim z (List.mem_of_find?_eq_some e); simp; omega

set_option maxRecDepth 100000 in
set_option maxHeartbeats 1000000 in
theorem dnext (g c : Nat) (A : Option Addr) (ws : List Int) (n : Int) (L : List Int) (i : Int) (W : World) (hz0 : W.cell? ⟨g, 0, none⟩ = some (.slice A ws.length c)) (hz1 : W.cell? ⟨g, 1, none⟩ = some (.int .i64 n)) (hr : Rd W A (ci .u64 ws)) (hR : Rep ws n L) (hn : n ≤ 1048576) (hT : TabAt64 W) : Calls Tryd.prog 41 #[.pointer (some ⟨g, 0, none⟩), .int .i64 i] W fun e W' => e = .returned (.int .i64 (nxt L i)) ∧ St W (owns []) W' [] := by
  have HS : St W (owns []) W [] := St.start W _
  obtain ⟨j, hj⟩ : ∃ z_ : Int, z_ = max i 0 := ⟨_, rfl⟩
  have hji : nxt L i = nxt L j := by rw [hj]; exact nxt_max hR i
  have hj0 : 0 ≤ j := by omega
  have hlen := hR.len
  refine calls_enter ((.pointer (some ⟨g, 0, none⟩)) :: (.int .i64 i) :: undef :: undef :: undef :: undef :: undef :: undef :: undef :: undef :: undef :: undef :: undef :: undef :: undef :: undef :: undef :: undef :: undef :: undef :: undef :: undef :: undef :: undef :: undef :: undef :: undef :: undef :: undef :: undef :: undef :: undef :: undef :: undef :: undef :: undef :: undef :: undef :: undef :: undef :: undef :: undef :: undef :: undef :: undef :: undef :: undef :: undef :: undef :: undef :: undef :: []) Tryd.func41 rfl (by kernel_rfl) ?_
  refine wp_seq ?_
  refine wp_region_lit ?_
  refine ql (.int .i64 0) (by kernel_rfl) (by kernel_rfl) ?_
  refine wpList_nil ?_
  refine x_then ?_
  refine wp_seq ?_
  refine wp_region_lit ?_
  refine ql (.int .i64 i) (by kernel_rfl) (by kernel_rfl) ?_
  refine ql (.int .i64 j) (by kernel_rfl) (R_eq (R_max (i := i) (j := 0) (by kernel_rfl) (by kernel_rfl)) (by rw [hj])) ?_
  refine ql (.int .i64 j) (by kernel_rfl) (by kernel_rfl) ?_
  refine wpList_nil ?_
  refine x_then ?_
  refine wp_seq ?_
  refine wp_seq ?_
  refine wp_region_lit ?_
  refine ql (.pointer (some ⟨g, 0, none⟩)) (by kernel_rfl) (by kernel_rfl) ?_
  refine ql (.int .i64 j) (by kernel_rfl) (by kernel_rfl) ?_
  refine qc (f := 45) (args := #[.pointer (some ⟨g, 0, none⟩), .int .i64 j]) (by kernel_rfl) (R_call #[.pointer (some ⟨g, 0, none⟩), .int .i64 j] Tryd.func45 (by kernel_rfl) (by kernel_rfl) (by kernel_rfl)) ?_
  by_cases hjn : j < n
  · skip
    refine (dis_t _ _ j _ (HS.old0 hz1) hj0 hjn).mono ?_
    rintro e W1 ⟨rfl, H_⟩
    refine ⟨_, rfl, ?_⟩
    replace HS : St W (owns []) W1 [] := HS.join (F := []) (G := []) H_
    clear H_
    refine ql (.bool false) (by kernel_rfl) (by kernel_rfl) ?_
    refine wpList_nil ?_
    refine x_then ?_
    refine wp_cond_false (by kernel_rfl) ?_
    refine wp_skip ?_
    refine x_then ?_
    refine wp_seq ?_
    refine wp_region_lit ?_
    refine ql (.int .i64 j) (by kernel_rfl) (by kernel_rfl) ?_
    refine ql (.int .i64 (j / 64)) (by kernel_rfl) (R_quo (by kernel_rfl) (by kernel_rfl) (by omega) (by omega) (by decide)) ?_
    refine ql (.int .i64 (j / 64)) (by kernel_rfl) (by kernel_rfl) ?_
    refine wpList_nil ?_
    refine x_then ?_
    refine wp_seq ?_
    refine wp_region_lit ?_
    refine ql (.pointer (some ⟨g, 0, none⟩)) (by kernel_rfl) (by kernel_rfl) ?_
    refine ql (.pointer (some ⟨g, 0, none⟩)) (by kernel_rfl) (by kernel_rfl) ?_
    refine ql (.pointer (some ⟨g, 0, none⟩)) (by kernel_rfl) (by kernel_rfl) ?_
    refine ql (.slice A ws.length c) (by kernel_rfl) (R_load (p := ⟨g, 0, none⟩) (by kernel_rfl) (by kernel_rfl) (by kernel_rfl) (HS.old0 hz0)) ?_
    refine ql (.int .i64 (j / 64)) (by kernel_rfl) (by kernel_rfl) ?_
    obtain ⟨ad2, rfl⟩ := Rd.isSome_ hr (by rw [ci_len]; omega)
    refine ql (.pointer (some (ad2.add (j / 64).toNat))) (by kernel_rfl) (R_indexA1 (k := .i64) (p := ad2) (n := ws.length) (c := c) (i := j / 64) (by kernel_rfl) (by kernel_rfl) Tryd.underlying75 (by kernel_rfl) (by omega) (by omega)) ?_
    refine ql (.int .u64 (rdI ws (j / 64))) (by kernel_rfl) (R_load (p := ad2.add (j / 64).toNat) (by kernel_rfl) (by kernel_rfl) (by kernel_rfl) (HS.old0 (hr.at_ (ci_rd (i := j / 64) (by omega) (by omega))))) ?_
    refine ql (.int .i64 j) (by kernel_rfl) (by kernel_rfl) ?_
    refine ql (.int .i64 (j % 64)) (by kernel_rfl) (R_rem2 (by kernel_rfl) (by kernel_rfl) (by omega) (by omega) (by decide)) ?_
    refine ql (.int .u64 (shrW (rdI ws (j / 64)) (j % 64))) (by kernel_rfl) (R_shr (k2 := .i64) (by kernel_rfl) (by kernel_rfl) (hR.rd_at hj0 hjn) (by omega) (by omega)) ?_
    refine ql (.int .i64 j) (by kernel_rfl) (by kernel_rfl) ?_
    refine ql (.int .i64 (j % 64)) (by kernel_rfl) (R_rem2 (by kernel_rfl) (by kernel_rfl) (by omega) (by omega) (by decide)) ?_
    refine ql (.int .u64 (shlW (shrW (rdI ws (j / 64)) (j % 64)) (j % 64))) (by kernel_rfl) (R_shl (k2 := .i64) (by kernel_rfl) (by kernel_rfl) (u_shr (hR.rd_at hj0 hjn)) (by omega) (by omega)) ?_
    refine ql (.int .u64 (shlW (shrW (rdI ws (j / 64)) (j % 64)) (j % 64))) (by kernel_rfl) (by kernel_rfl) ?_
    refine wpList_nil ?_
    refine x_then ?_
    refine wp_block ?_
    have hij := hR.idx hj0 hjn
    refine wp_loop_ghost (fun kq a' w' => ∃ (J3 : Nat → Value) (k : Int) (wv : Int) , a' = Fr ((.pointer (some ⟨g, 0, none⟩)) :: (.int .i64 j) :: undef :: undef :: ((J3 4)) :: (.int .i64 k) :: (.int .u64 wv) :: (.int .i64 i) :: (.int .i64 j) :: (.pointer (some ⟨g, 0, none⟩)) :: (.int .i64 j) :: (.bool true) :: (.bool false) :: (.int .i64 j) :: (.int .i64 (j / 64)) :: (.pointer (some ⟨g, 0, none⟩)) :: (.pointer (some ⟨g, 0, none⟩)) :: (.pointer (some ⟨g, 0, none⟩)) :: (.slice (some ad2) ws.length c) :: (.int .i64 (j / 64)) :: (.pointer (some (ad2.add (j / 64).toNat))) :: (.int .u64 (rdI ws (j / 64))) :: (.int .i64 j) :: (.int .i64 (j % 64)) :: (.int .u64 (shrW (rdI ws (j / 64)) (j % 64))) :: (.int .i64 j) :: (.int .i64 (j % 64)) :: (.int .u64 (shlW (shrW (rdI ws (j / 64)) (j % 64)) (j % 64))) :: ((J3 28)) :: ((J3 29)) :: ((J3 30)) :: ((J3 31)) :: ((J3 32)) :: ((J3 33)) :: ((J3 34)) :: ((J3 35)) :: ((J3 36)) :: ((J3 37)) :: ((J3 38)) :: ((J3 39)) :: ((J3 40)) :: ((J3 41)) :: ((J3 42)) :: ((J3 43)) :: ((J3 44)) :: ((J3 45)) :: ((J3 46)) :: ((J3 47)) :: ((J3 48)) :: ((J3 49)) :: ((J3 50)) :: []) ∧ kq = (ws.length - (k).toNat) ∧ (0 ≤ k) ∧ (k < ws.length) ∧ (Nw ws j k wv) ∧ (∀ x ∈ L, j ≤ x → 64 * k ≤ x) ∧ (j < 64 * k + 64) ∧ St W (owns []) w' []) (ws.length - (j / 64).toNat) ⟨(fun k_ : Nat => List.getD ((.pointer (some ⟨g, 0, none⟩)) :: (.int .i64 j) :: undef :: undef :: (.int .i64 0) :: (.int .i64 (j / 64)) :: (.int .u64 (shlW (shrW (rdI ws (j / 64)) (j % 64)) (j % 64))) :: (.int .i64 i) :: (.int .i64 j) :: (.pointer (some ⟨g, 0, none⟩)) :: (.int .i64 j) :: (.bool true) :: (.bool false) :: (.int .i64 j) :: (.int .i64 (j / 64)) :: (.pointer (some ⟨g, 0, none⟩)) :: (.pointer (some ⟨g, 0, none⟩)) :: (.pointer (some ⟨g, 0, none⟩)) :: (.slice (some ad2) ws.length c) :: (.int .i64 (j / 64)) :: (.pointer (some (ad2.add (j / 64).toNat))) :: (.int .u64 (rdI ws (j / 64))) :: (.int .i64 j) :: (.int .i64 (j % 64)) :: (.int .u64 (shrW (rdI ws (j / 64)) (j % 64))) :: (.int .i64 j) :: (.int .i64 (j % 64)) :: (.int .u64 (shlW (shrW (rdI ws (j / 64)) (j % 64)) (j % 64))) :: undef :: undef :: undef :: undef :: undef :: undef :: undef :: undef :: undef :: undef :: undef :: undef :: undef :: undef :: undef :: undef :: undef :: undef :: undef :: undef :: undef :: undef :: undef :: []) k_ undef), j / 64, shlW (shrW (rdI ws (j / 64)) (j % 64)) (j % 64), congrArg Fr (by kernel_rfl), rfl, by omega, by omega, hR.nw_first hj0 hjn, fun x hx h => by omega, by omega, HS⟩ ?_
    clear HS
    intro kq4 a' W5 hrel
    obtain ⟨J3, k, wv, rfl, hk, k0, k1, hw, hlow, hjk, HS⟩ := hrel
    refine wp_seq ?_
    refine wp_block ?_
    refine wp_seq ?_
    refine wp_seq ?_
    refine wp_region_lit ?_
    refine ql (.int .u64 wv) (by kernel_rfl) (by kernel_rfl) ?_
    by_cases hc6 : wv = (0 : Int)
    · skip
      refine ql (.bool false) (by kernel_rfl) (R_beq (b := (wv != (0 : Int))) (by kernel_rfl) (bne_f (hc6))) ?_
      refine wpList_nil ?_
      refine x_then ?_
      refine wp_cond_false (by kernel_rfl) ?_
      refine wp_skip ?_
      refine x_then ?_
      refine wp_seq ?_
      refine wp_region_lit ?_
      refine ql (.int .i64 k) (by kernel_rfl) (by kernel_rfl) ?_
      refine ql (.int .i64 (k + 1)) (by kernel_rfl) (R_int (by kernel_rfl) (w64 (by omega))) ?_
      refine ql (.int .i64 (k + 1)) (by kernel_rfl) (by kernel_rfl) ?_
      refine wpList_nil ?_
      refine x_then ?_
      refine wp_seq ?_
      refine wp_region_lit ?_
      refine ql (.int .i64 (k + 1)) (by kernel_rfl) (by kernel_rfl) ?_
      refine ql (.pointer (some ⟨g, 0, none⟩)) (by kernel_rfl) (by kernel_rfl) ?_
      refine ql (.pointer (some ⟨g, 0, none⟩)) (by kernel_rfl) (by kernel_rfl) ?_
      refine ql (.pointer (some ⟨g, 0, none⟩)) (by kernel_rfl) (by kernel_rfl) ?_
      refine ql (.slice (some ad2) ws.length c) (by kernel_rfl) (R_load (p := ⟨g, 0, none⟩) (by kernel_rfl) (by kernel_rfl) (by kernel_rfl) (HS.old0 hz0)) ?_
      refine ql (.int .i64 (ws.length : Int)) (by kernel_rfl) (by kernel_rfl) ?_
      by_cases hc7 : (k + 1) = (ws.length : Int)
      · skip
        refine ql (.bool true) (by kernel_rfl) (R_beq (b := (k + 1 == (ws.length : Int))) (by kernel_rfl) (beq_t (hc7))) ?_
        refine wpList_nil ?_
        refine x_then ?_
        refine wp_cond_true (by kernel_rfl) ?_
        refine wp_seq ?_
        refine wp_region_lit ?_
        refine ql (.int .i64 (-1)) (by kernel_rfl) (by kernel_rfl) ?_
        refine wpList_nil ?_
        refine x_then ?_
        refine wp_ret ?_
        refine x_inbR ?_
        refine x_thenR ?_
        refine x_thenR ?_
        refine x_inbR ?_
        refine ret_ (.int .i64 (-1)) (by kernel_rfl) ?_
        have hsk := hR.nxt_skip k0 k1 hw hc6 hlow
        exact ⟨by rw [hji, hR.nxt_over (by rw [show (ws.length : Int) = k + 1 by omega]; exact hsk)], HS⟩
      · skip
        refine ql (.bool false) (by kernel_rfl) (R_beq (b := (k + 1 == (ws.length : Int))) (by kernel_rfl) (beq_f (hc7))) ?_
        refine wpList_nil ?_
        refine x_then ?_
        refine wp_cond_false (by kernel_rfl) ?_
        refine wp_skip ?_
        refine x_inb ?_
        refine x_then ?_
        refine wp_region_lit ?_
        refine ql (.pointer (some ⟨g, 0, none⟩)) (by kernel_rfl) (by kernel_rfl) ?_
        refine ql (.pointer (some ⟨g, 0, none⟩)) (by kernel_rfl) (by kernel_rfl) ?_
        refine ql (.pointer (some ⟨g, 0, none⟩)) (by kernel_rfl) (by kernel_rfl) ?_
        refine ql (.slice (some ad2) ws.length c) (by kernel_rfl) (R_load (p := ⟨g, 0, none⟩) (by kernel_rfl) (by kernel_rfl) (by kernel_rfl) (HS.old0 hz0)) ?_
        refine ql (.int .i64 (k + 1)) (by kernel_rfl) (by kernel_rfl) ?_
        refine ql (.pointer (some (ad2.add (k + 1).toNat))) (by kernel_rfl) (R_indexA1 (k := .i64) (p := ad2) (n := ws.length) (c := c) (i := k + 1) (by kernel_rfl) (by kernel_rfl) Tryd.underlying75 (by kernel_rfl) (by omega) (by omega)) ?_
        refine ql (.int .u64 (rdI ws (k + 1))) (by kernel_rfl) (R_load (p := ad2.add (k + 1).toNat) (by kernel_rfl) (by kernel_rfl) (by kernel_rfl) (HS.old0 (hr.at_ (ci_rd (i := k + 1) (by omega) (by omega))))) ?_
        refine ql (.int .u64 (rdI ws (k + 1))) (by kernel_rfl) (by kernel_rfl) ?_
        refine wpList_nil ?_
        refine x_then ?_
        exact ⟨ws.length - (k + 1).toNat, by omega, (fun k_ : Nat => List.getD ((.pointer (some ⟨g, 0, none⟩)) :: (.int .i64 j) :: undef :: undef :: ((J3 4)) :: (.int .i64 (k + 1)) :: (.int .u64 (rdI ws (k + 1))) :: (.int .i64 i) :: (.int .i64 j) :: (.pointer (some ⟨g, 0, none⟩)) :: (.int .i64 j) :: (.bool true) :: (.bool false) :: (.int .i64 j) :: (.int .i64 (j / 64)) :: (.pointer (some ⟨g, 0, none⟩)) :: (.pointer (some ⟨g, 0, none⟩)) :: (.pointer (some ⟨g, 0, none⟩)) :: (.slice (some ad2) ws.length c) :: (.int .i64 (j / 64)) :: (.pointer (some (ad2.add (j / 64).toNat))) :: (.int .u64 (rdI ws (j / 64))) :: (.int .i64 j) :: (.int .i64 (j % 64)) :: (.int .u64 (shrW (rdI ws (j / 64)) (j % 64))) :: (.int .i64 j) :: (.int .i64 (j % 64)) :: (.int .u64 (shlW (shrW (rdI ws (j / 64)) (j % 64)) (j % 64))) :: (.pointer (some ⟨g, 0, none⟩)) :: (.pointer (some ⟨g, 0, none⟩)) :: (.pointer (some ⟨g, 0, none⟩)) :: (.slice (some ad2) ws.length c) :: (.int .i64 (k + 1)) :: (.pointer (some (ad2.add (k + 1).toNat))) :: (.int .u64 (rdI ws (k + 1))) :: (.int .u64 wv) :: (.bool false) :: ((J3 37)) :: ((J3 38)) :: ((J3 39)) :: ((J3 40)) :: ((J3 41)) :: (.int .i64 k) :: (.int .i64 (k + 1)) :: (.int .i64 (k + 1)) :: (.pointer (some ⟨g, 0, none⟩)) :: (.pointer (some ⟨g, 0, none⟩)) :: (.pointer (some ⟨g, 0, none⟩)) :: (.slice (some ad2) ws.length c) :: (.int .i64 (ws.length : Int)) :: (.bool false) :: []) k_ undef), k + 1, rdI ws (k + 1), congrArg Fr (by kernel_rfl), rfl, by omega, by omega, hR.nw_next (by omega) (by omega) (by omega), hR.nxt_skip k0 k1 hw hc6 hlow, by omega, HS⟩
    · skip
      refine ql (.bool true) (by kernel_rfl) (R_beq (b := (wv != (0 : Int))) (by kernel_rfl) (bne_t (hc6))) ?_
      refine wpList_nil ?_
      refine x_then ?_
      refine wp_cond_true (by kernel_rfl) ?_
      refine wp_seq ?_
      refine wp_region_lit ?_
      refine ql (.int .i64 k) (by kernel_rfl) (by kernel_rfl) ?_
      refine ql (.int .i64 (k * 64)) (by kernel_rfl) (R_int (by kernel_rfl) (w64 (by omega))) ?_
      refine ql (.int .u64 wv) (by kernel_rfl) (by kernel_rfl) ?_
      refine qc (f := 59) (args := #[.int .u64 wv]) (by kernel_rfl) (R_call #[.int .u64 wv] Tryd.func59 (by kernel_rfl) (by kernel_rfl) (by kernel_rfl)) ?_
      obtain ⟨wn, hwn, hwl⟩ := hw.1.nat
      subst hwn
      have hf := hR.nxt_found k0 k1 hw (by omega) hlow
      simp only [Int.toNat_natCast] at hf
      obtain ⟨hf1, hf2⟩ := hf
      refine (tz64 wn _ hwl (by omega) (hT.old0 HS)).mono ?_
      rintro e W8 ⟨rfl, H_⟩
      refine ⟨_, rfl, ?_⟩
      replace HS : St W (owns []) W8 [] := HS.join (F := []) (G := []) H_
      clear H_
      refine ql (.int .i64 ((k * 64) + ((Lib.ctz 64 wn : Nat) : Int))) (by kernel_rfl) (R_int (by kernel_rfl) (w64 (by omega))) ?_
      refine ql (.int .i64 ((k * 64) + ((Lib.ctz 64 wn : Nat) : Int))) (by kernel_rfl) (by kernel_rfl) ?_
      refine wpList_nil ?_
      refine x_then ?_
      refine wp_ret ?_
      refine x_thenR ?_
      refine x_inbR ?_
      refine x_thenR ?_
      refine x_thenR ?_
      refine x_inbR ?_
      refine ret_ (.int .i64 ((k * 64) + ((Lib.ctz 64 wn : Nat) : Int))) (by kernel_rfl) ?_
      exact ⟨by rw [hji, hf1], HS⟩
  · skip
    refine (dis_f _ _ j _ (HS.old0 hz1) (by omega)).mono ?_
    rintro e W9 ⟨rfl, H_⟩
    refine ⟨_, rfl, ?_⟩
    replace HS : St W (owns []) W9 [] := HS.join (F := []) (G := []) H_
    clear H_
    refine ql (.bool true) (by kernel_rfl) (by kernel_rfl) ?_
    refine wpList_nil ?_
    refine x_then ?_
    refine wp_cond_true (by kernel_rfl) ?_
    refine wp_seq ?_
    refine wp_region_lit ?_
    refine ql (.int .i64 (-1)) (by kernel_rfl) (by kernel_rfl) ?_
    refine wpList_nil ?_
    refine x_then ?_
    refine wp_ret ?_
    refine x_thenR ?_
    refine ret_ (.int .i64 (-1)) (by kernel_rfl) ?_
    exact ⟨by rw [hji, hR.nxt_out (by omega)], HS⟩


theorem TabAt64.put {W : World} {l : Nat} {o o' : Obj} (h : TabAt64 W) (hl : W.heap[l]? = some o) (ho : o.isCells = false) : TabAt64 (W.putObj l o') := fun j hj => by
  have hp := h j hj
  obtain ⟨o2, h2, h3⟩ := cells_of_cell hp
  refine (World.cell?_of_block (World.putObj_heap_other (fun e => ?_))).trans hp
  rw [e, hl] at h2; cases h2; rw [ho] at h3; cases h3
theorem TabAt64.below {W W' : World} (h : TabAt64 W) (hb : Below W.heap.size W W') : TabAt64 W' := fun j hj => (hb.cell (World.block_lt_of_cell? W _ (h j hj))).trans (h j hj)
/-- What the iterator over a set reads. -/
def DnT (b g c : Nat) (A : Option Addr) (ws : List Int) (n : Int) (W : World) : Prop := DnI b g c A ws n W ∧ TabAt64 W
theorem DnT.below {b g c : Nat} {A : Option Addr} {ws : List Int} {n : Int} {W W' : World} (h : DnT b g c A ws n W) (hb : Below W.heap.size W W') : DnT b g c A ws n W' := ⟨h.1.tail_ hb, h.2.below hb⟩
theorem DnT.put {b g c : Nat} {A : Option Addr} {ws : List Int} {n : Int} {W : World} {l : Nat} {o o' : Obj} (h : DnT b g c A ws n W) (hl : W.heap[l]? = some o) (ho : o.isCells = false) : DnT b g c A ws n (W.putObj l o') := ⟨h.1.put hl ho, h.2.put hl ho⟩
def DnK (b g c : Nat) (A : Option Addr) (ws : List Int) (n : Int) (W W' : World) : Prop := DnT b g c A ws n W → DnT b g c A ws n W'

theorem DnK.of {b g c : Nat} {A : Option Addr} {ws : List Int} {n : Int} {W X Y : World} (h : DnT b g c A ws n W) (hb : Below W.heap.size X Y) : DnK b g c A ws n X Y := fun ⟨⟨p1, p2, p3, p4⟩, p5⟩ =>
  ⟨⟨(hb.cell (World.block_lt_of_cell? W _ h.1.hb)).trans p1, (hb.cell (World.block_lt_of_cell? W _ h.1.h0)).trans p2, (hb.cell (World.block_lt_of_cell? W _ h.1.h1)).trans p3, fun j v hv => by
    obtain ⟨ad, e, hc⟩ := p4 j v hv
    obtain ⟨ad2, e2, hc2⟩ := h.1.hr j v hv
    rw [e] at e2; cases e2
    exact ⟨ad, e, (hb.cell (World.block_lt_of_cell? W _ hc2)).trans hc⟩⟩, fun j hj => (hb.cell (World.block_lt_of_cell? W _ (h.2 j hj))).trans (p5 j hj)⟩
def DnN (b : Nat) (W : World) : Prop := W.cell? ⟨b, 0, none⟩ = some (.pointer none)
theorem DnN.below {b : Nat} {W W' : World} (h : DnN b W) (hb : Below W.heap.size W W') : DnN b W' := (hb.cell (World.block_lt_of_cell? W _ h)).trans h
def DnNK (b : Nat) (W W' : World) : Prop := DnN b W → DnN b W'
theorem DnNK.of {b : Nat} {W X Y : World} (h : DnN b W) (hb : Below W.heap.size X Y) : DnNK b X Y := fun p => (hb.cell (World.block_lt_of_cell? W _ h)).trans p


theorem daddu (g c : Nat) (A : Option Addr) (ws : List Int) (n : Int) (L : List Int) (i : Int) (W : World) (M : Nat → Prop) (HS : St W M W [blk g [.slice A ws.length c, .int .i64 n] 77, row A ws.length c (ci .u64 ws) 74 1]) (hR : Rep ws n L) (hn : n ≤ 1048576) : Calls Tryd.prog 18 #[.pointer (some ⟨g, 0, none⟩), .int .i64 i] W fun e W' => ∃ ws', e = .returned (.bool (addB n L i)) ∧ St W M W' [blk g [.slice A ws'.length c, .int .i64 n] 77, row A ws'.length c (ci .u64 ws') 74 1] ∧ Rep ws' n (addL n L i) := by
  by_cases h : 0 ≤ i ∧ i < n
  · by_cases hi : i ∈ L
    · have ha := addL_out (n := n) (.inr (.inr hi))
      refine (dadd_old g c A ws n L i W M HS hR hn hi).mono ?_
      rintro e W' ⟨rfl, H⟩
      exact ⟨ws, by rw [ha.2], H, by rw [ha.1]; exact hR⟩
    · have ha := addL_in h.1 h.2 hi
      refine (dadd_new g c A ws n L i W M HS hR hn h.1 h.2 hi).mono ?_
      rintro e W' ⟨ws', rfl, H, h2⟩
      exact ⟨ws', by rw [ha.2], H, by rw [ha.1]; exact h2⟩
  · have ha := addL_out (n := n) (i := i) (L := L) (by omega)
    refine (dadd_out g c A ws n L i W M HS hR hn (by omega)).mono ?_
    rintro e W' ⟨rfl, H⟩
    exact ⟨ws, by rw [ha.2], H, by rw [ha.1]; exact hR⟩

open Go.Conc
set_option maxRecDepth 100000 in
set_option maxHeartbeats 1000000 in
theorem pputS_room (g c tb cap : Nat) (buf : List ByteArray) (v : ByteArray) (W : World) (M : Nat → Prop) (HS : St W M W [blk g [.chan (some c)] tb, chn c cap (buf.map fun n : ByteArray => Value.string n)]) (hroom : buf.length < cap) : Calls Tryd.prog 47 #[.pointer (some ⟨g, 0, none⟩), .string v] W fun e W' => e = .returned (.bool true) ∧ St W M W' [blk g [.chan (some c)] tb, chn c cap ((buf ++ [v]).map fun n : ByteArray => Value.string n)] := by
  have hcell := HS.cell (i := 0) (j := 0) rfl rfl
  obtain ⟨s, r, hc⟩ := HS.get (i := 1) rfl
  refine calls_of_loneTo (fun cs => ?_) (by rintro _ ⟨h, _⟩; cases h)
  have e : Frame.enter Tryd.prog 47 #[.pointer (some ⟨g, 0, none⟩), .string v] .normal = (base 47).at ⟨#[.pointer (some ⟨g, 0, none⟩), .string v, undef, undef, undef, undef, undef, undef, undef, undef, undef, undef, undef, undef, undef], []⟩ [.code (Tryd.f47.body.getD .skip)] := by
    simp [Frame.enter, Frame.at, Tryd.func47, base, Tryd.f47] <;> rfl
  rw [e]
  refine LoneTo.goes (n := 25) ?_
  simp only [Tryd.f47, Option.getD_some]
  s_c stepG_seq
  s_reg
  s_op
  s_c stepG_region_end
  s_c stepG_seq
  s_c stepG_seq
  s_reg
  s_op
  s_op
  s_c stepG_region_end
  s_cond false
  s_c stepG_skip
  s_c stepG_seq
  s_c stepG_seq
  s_reg
  s_op
  s_op
  s_op
  s_op
  s_c stepG_region_end
  s_reg
  s_op
  s_c stepG_region_end
  s_c stepG_seq
  s_reg
  s_stop
  refine LoneTo.step (step_lone_select_send_room (c := c) (cap := cap) (buf := (buf.map fun n : ByteArray => Value.string n).toArray) (s := s) (r := r) (tm := false) (stepG_comm (cases := #[scase c (.string v) (.string ⟨#[]⟩)]) (blocking := false) (shape := .select) (w' := W) rfl rfl (by decide) (by simp [go_sem, execOp, scase, Act.eval])) hc (by simpa using hroom)) ?_
  rw [Frame.finish_at]
  walk_nrm
  refine LoneTo.goes (n := 10) ?_
  s_op
  s_op
  s_c stepG_region_end
  s_c stepG_block
  s_cond true
  s_c stepG_seq
  s_reg
  s_op
  s_c stepG_region_end
  s_c stepG_ret'
  s_stop
  refine LoneTo.done ⟨.returned (.bool true), _, rfl, ⟨rfl, ?_⟩, rfl, rfl, rfl, rfl, _, Tryd.func47, by simp [results, Tryd.f47, Frame.at]⟩
  have h9 := HS.setChan (i := 1) rfl (((buf ++ [v]).map fun n : ByteArray => Value.string n)) (s + 1) r
  simpa using h9

set_option maxRecDepth 100000 in
set_option maxHeartbeats 1000000 in
theorem pputS_full (g c tb cap : Nat) (buf : List ByteArray) (v : ByteArray) (W : World) (M : Nat → Prop) (HS : St W M W [blk g [.chan (some c)] tb, chn c cap (buf.map fun n : ByteArray => Value.string n)]) (hfull : cap ≤ buf.length) : Calls Tryd.prog 47 #[.pointer (some ⟨g, 0, none⟩), .string v] W fun e W' => e = .returned (.bool false) ∧ St W M W' [blk g [.chan (some c)] tb, chn c cap (buf.map fun n : ByteArray => Value.string n)] := by
  have hcell := HS.cell (i := 0) (j := 0) rfl rfl
  obtain ⟨s, r, hc⟩ := HS.get (i := 1) rfl
  refine calls_of_loneTo (fun cs => ?_) (by rintro _ ⟨h, _⟩; cases h)
  have e : Frame.enter Tryd.prog 47 #[.pointer (some ⟨g, 0, none⟩), .string v] .normal = (base 47).at ⟨#[.pointer (some ⟨g, 0, none⟩), .string v, undef, undef, undef, undef, undef, undef, undef, undef, undef, undef, undef, undef, undef], []⟩ [.code (Tryd.f47.body.getD .skip)] := by
    simp [Frame.enter, Frame.at, Tryd.func47, base, Tryd.f47] <;> rfl
  rw [e]
  refine LoneTo.goes (n := 25) ?_
  simp only [Tryd.f47, Option.getD_some]
  s_c stepG_seq
  s_reg
  s_op
  s_c stepG_region_end
  s_c stepG_seq
  s_c stepG_seq
  s_reg
  s_op
  s_op
  s_c stepG_region_end
  s_cond false
  s_c stepG_skip
  s_c stepG_seq
  s_c stepG_seq
  s_reg
  s_op
  s_op
  s_op
  s_op
  s_c stepG_region_end
  s_reg
  s_op
  s_c stepG_region_end
  s_c stepG_seq
  s_reg
  s_stop
  refine LoneTo.step (step_lone_select_send_full (c := c) (cap := cap) (buf := (buf.map fun n : ByteArray => Value.string n).toArray) (s := s) (r := r) (tm := false) (stepG_comm (cases := #[scase c (.string v) (.string ⟨#[]⟩)]) (blocking := false) (shape := .select) (w' := W) rfl rfl (by decide) (by simp [go_sem, execOp, scase, Act.eval])) hc (by simpa using hfull)) ?_
  rw [Frame.finish_at]
  walk_nrm
  refine LoneTo.goes (n := 10) ?_
  s_op
  s_op
  s_c stepG_region_end
  s_c stepG_block
  s_cond false
  s_c stepG_seq
  s_reg
  s_op
  s_c stepG_region_end
  s_c stepG_ret'
  s_stop
  exact LoneTo.done ⟨.returned (.bool false), _, rfl, ⟨rfl, HS⟩, rfl, rfl, rfl, rfl, _, Tryd.func47, by simp [results, Tryd.f47, Frame.at]⟩

set_option maxRecDepth 100000 in
set_option maxHeartbeats 1000000 in
theorem pgetS_some (g c tb cap : Nat) (buf : List ByteArray) (v : ByteArray) (W : World) (M : Nat → Prop) (HS : St W M W [blk g [.chan (some c)] tb, chn c cap ((v :: buf).map fun n : ByteArray => Value.string n)]) : Calls Tryd.prog 48 #[.pointer (some ⟨g, 0, none⟩)] W fun e W' => e = .returned (.tuple #[.string v, .bool true]) ∧ St W M W' [blk g [.chan (some c)] tb, chn c cap (buf.map fun n : ByteArray => Value.string n)] := by
  have hcell := HS.cell (i := 0) (j := 0) rfl rfl
  obtain ⟨s, r, hc⟩ := HS.get (i := 1) rfl
  refine calls_of_loneTo (fun cs => ?_) (by rintro _ ⟨h, _⟩; cases h)
  have e : Frame.enter Tryd.prog 48 #[.pointer (some ⟨g, 0, none⟩)] .normal = (base 48).at ⟨#[.pointer (some ⟨g, 0, none⟩), undef, undef, undef, undef, undef, undef, undef, undef, undef, undef, undef, undef, undef, undef, undef, undef, undef, undef], []⟩ [.code (Tryd.f48.body.getD .skip)] := by
    simp [Frame.enter, Frame.at, Tryd.func48, base, Tryd.f48] <;> rfl
  rw [e]
  refine LoneTo.goes (n := 26) ?_
  simp only [Tryd.f48, Option.getD_some]
  s_c stepG_seq
  s_reg
  s_op
  s_op
  s_c stepG_region_end
  s_c stepG_seq
  s_reg
  s_op
  s_c stepG_region_end
  s_c stepG_seq
  s_c stepG_seq
  s_reg
  s_op
  s_op
  s_c stepG_region_end
  s_cond false
  s_c stepG_skip
  s_c stepG_seq
  s_reg
  s_op
  s_op
  s_op
  s_op
  s_c stepG_region_end
  s_c stepG_seq
  s_reg
  s_stop
  refine LoneTo.step (step_lone_select_recv_buf (c := c) (cap := cap) (buf := ((v :: buf).map fun n : ByteArray => Value.string n).toArray) (s := s) (r := r) (tm := false) (stepG_comm (cases := #[rcase c (.string ⟨#[]⟩)]) (blocking := false) (shape := .select) (w' := W) rfl rfl (by decide) (by simp [go_sem, execOp, rcase, Act.eval])) hc (by simp)) ?_
  rw [Frame.finish_at]
  walk_nrm
  refine LoneTo.goes (n := 17) ?_
  s_op
  s_op
  s_c stepG_region_end
  s_c stepG_block
  s_cond true
  s_c stepG_seq
  s_reg
  s_op
  s_op
  s_c stepG_region_end
  s_c stepG_seq
  s_reg
  s_op
  s_op
  s_op
  s_c stepG_region_end
  s_c stepG_ret'
  s_stop
  refine LoneTo.done ⟨.returned (.tuple #[.string v, .bool true]), _, rfl, ⟨rfl, ?_⟩, rfl, rfl, rfl, rfl, _, Tryd.func48, by simp [results, Tryd.f48, Frame.at]⟩
  have h9 := HS.setChan (i := 1) rfl ((buf.map fun n : ByteArray => Value.string n)) s (r + 1)
  have ht : List.take buf.length (buf.map fun n : ByteArray => Value.string n) = (buf.map fun n : ByteArray => Value.string n) := List.take_of_length_le (by simp)
  simpa [ht] using h9

set_option maxRecDepth 100000 in
set_option maxHeartbeats 1000000 in
theorem pputP_room (g c tb cap : Nat) (buf : List Nat) (v : Nat) (W : World) (M : Nat → Prop) (HS : St W M W [blk g [.chan (some c)] tb, chn c cap (buf.map fun n : Nat => Value.pointer (some ⟨n, 0, none⟩))]) (hroom : buf.length < cap) : Calls Tryd.prog 43 #[.pointer (some ⟨g, 0, none⟩), .pointer (some ⟨v, 0, none⟩)] W fun e W' => e = .returned (.bool true) ∧ St W M W' [blk g [.chan (some c)] tb, chn c cap ((buf ++ [v]).map fun n : Nat => Value.pointer (some ⟨n, 0, none⟩))] := by
  have hcell := HS.cell (i := 0) (j := 0) rfl rfl
  obtain ⟨s, r, hc⟩ := HS.get (i := 1) rfl
  refine calls_of_loneTo (fun cs => ?_) (by rintro _ ⟨h, _⟩; cases h)
  have e : Frame.enter Tryd.prog 43 #[.pointer (some ⟨g, 0, none⟩), .pointer (some ⟨v, 0, none⟩)] .normal = (base 43).at ⟨#[.pointer (some ⟨g, 0, none⟩), .pointer (some ⟨v, 0, none⟩), undef, undef, undef, undef, undef, undef, undef, undef, undef, undef, undef, undef, undef], []⟩ [.code (Tryd.f43.body.getD .skip)] := by
    simp [Frame.enter, Frame.at, Tryd.func43, base, Tryd.f43] <;> rfl
  rw [e]
  refine LoneTo.goes (n := 25) ?_
  simp only [Tryd.f43, Option.getD_some]
  s_c stepG_seq
  s_reg
  s_op
  s_c stepG_region_end
  s_c stepG_seq
  s_c stepG_seq
  s_reg
  s_op
  s_op
  s_c stepG_region_end
  s_cond false
  s_c stepG_skip
  s_c stepG_seq
  s_c stepG_seq
  s_reg
  s_op
  s_op
  s_op
  s_op
  s_c stepG_region_end
  s_reg
  s_op
  s_c stepG_region_end
  s_c stepG_seq
  s_reg
  s_stop
  refine LoneTo.step (step_lone_select_send_room (c := c) (cap := cap) (buf := (buf.map fun n : Nat => Value.pointer (some ⟨n, 0, none⟩)).toArray) (s := s) (r := r) (tm := false) (stepG_comm (cases := #[scase c (.pointer (some ⟨v, 0, none⟩)) (.pointer none)]) (blocking := false) (shape := .select) (w' := W) rfl rfl (by decide) (by simp [go_sem, execOp, scase, Act.eval])) hc (by simpa using hroom)) ?_
  rw [Frame.finish_at]
  walk_nrm
  refine LoneTo.goes (n := 10) ?_
  s_op
  s_op
  s_c stepG_region_end
  s_c stepG_block
  s_cond true
  s_c stepG_seq
  s_reg
  s_op
  s_c stepG_region_end
  s_c stepG_ret'
  s_stop
  refine LoneTo.done ⟨.returned (.bool true), _, rfl, ⟨rfl, ?_⟩, rfl, rfl, rfl, rfl, _, Tryd.func43, by simp [results, Tryd.f43, Frame.at]⟩
  have h9 := HS.setChan (i := 1) rfl (((buf ++ [v]).map fun n : Nat => Value.pointer (some ⟨n, 0, none⟩))) (s + 1) r
  simpa using h9

set_option maxRecDepth 100000 in
set_option maxHeartbeats 1000000 in
theorem pputP_full (g c tb cap : Nat) (buf : List Nat) (v : Nat) (W : World) (M : Nat → Prop) (HS : St W M W [blk g [.chan (some c)] tb, chn c cap (buf.map fun n : Nat => Value.pointer (some ⟨n, 0, none⟩))]) (hfull : cap ≤ buf.length) : Calls Tryd.prog 43 #[.pointer (some ⟨g, 0, none⟩), .pointer (some ⟨v, 0, none⟩)] W fun e W' => e = .returned (.bool false) ∧ St W M W' [blk g [.chan (some c)] tb, chn c cap (buf.map fun n : Nat => Value.pointer (some ⟨n, 0, none⟩))] := by
  have hcell := HS.cell (i := 0) (j := 0) rfl rfl
  obtain ⟨s, r, hc⟩ := HS.get (i := 1) rfl
  refine calls_of_loneTo (fun cs => ?_) (by rintro _ ⟨h, _⟩; cases h)
  have e : Frame.enter Tryd.prog 43 #[.pointer (some ⟨g, 0, none⟩), .pointer (some ⟨v, 0, none⟩)] .normal = (base 43).at ⟨#[.pointer (some ⟨g, 0, none⟩), .pointer (some ⟨v, 0, none⟩), undef, undef, undef, undef, undef, undef, undef, undef, undef, undef, undef, undef, undef], []⟩ [.code (Tryd.f43.body.getD .skip)] := by
    simp [Frame.enter, Frame.at, Tryd.func43, base, Tryd.f43] <;> rfl
  rw [e]
  refine LoneTo.goes (n := 25) ?_
  simp only [Tryd.f43, Option.getD_some]
  s_c stepG_seq
  s_reg
  s_op
  s_c stepG_region_end
  s_c stepG_seq
  s_c stepG_seq
  s_reg
  s_op
  s_op
  s_c stepG_region_end
  s_cond false
  s_c stepG_skip
  s_c stepG_seq
  s_c stepG_seq
  s_reg
  s_op
  s_op
  s_op
  s_op
  s_c stepG_region_end
  s_reg
  s_op
  s_c stepG_region_end
  s_c stepG_seq
  s_reg
  s_stop
  refine LoneTo.step (step_lone_select_send_full (c := c) (cap := cap) (buf := (buf.map fun n : Nat => Value.pointer (some ⟨n, 0, none⟩)).toArray) (s := s) (r := r) (tm := false) (stepG_comm (cases := #[scase c (.pointer (some ⟨v, 0, none⟩)) (.pointer none)]) (blocking := false) (shape := .select) (w' := W) rfl rfl (by decide) (by simp [go_sem, execOp, scase, Act.eval])) hc (by simpa using hfull)) ?_
  rw [Frame.finish_at]
  walk_nrm
  refine LoneTo.goes (n := 10) ?_
  s_op
  s_op
  s_c stepG_region_end
  s_c stepG_block
  s_cond false
  s_c stepG_seq
  s_reg
  s_op
  s_c stepG_region_end
  s_c stepG_ret'
  s_stop
  exact LoneTo.done ⟨.returned (.bool false), _, rfl, ⟨rfl, HS⟩, rfl, rfl, rfl, rfl, _, Tryd.func43, by simp [results, Tryd.f43, Frame.at]⟩

set_option maxRecDepth 100000 in
set_option maxHeartbeats 1000000 in
theorem pgetP_some (g c tb cap : Nat) (buf : List Nat) (v : Nat) (W : World) (M : Nat → Prop) (HS : St W M W [blk g [.chan (some c)] tb, chn c cap ((v :: buf).map fun n : Nat => Value.pointer (some ⟨n, 0, none⟩))]) : Calls Tryd.prog 39 #[.pointer (some ⟨g, 0, none⟩)] W fun e W' => e = .returned (.tuple #[.pointer (some ⟨v, 0, none⟩), .bool true]) ∧ St W M W' [blk g [.chan (some c)] tb, chn c cap (buf.map fun n : Nat => Value.pointer (some ⟨n, 0, none⟩))] := by
  have hcell := HS.cell (i := 0) (j := 0) rfl rfl
  obtain ⟨s, r, hc⟩ := HS.get (i := 1) rfl
  refine calls_of_loneTo (fun cs => ?_) (by rintro _ ⟨h, _⟩; cases h)
  have e : Frame.enter Tryd.prog 39 #[.pointer (some ⟨g, 0, none⟩)] .normal = (base 39).at ⟨#[.pointer (some ⟨g, 0, none⟩), undef, undef, undef, undef, undef, undef, undef, undef, undef, undef, undef, undef, undef, undef, undef, undef, undef, undef], []⟩ [.code (Tryd.f39.body.getD .skip)] := by
    simp [Frame.enter, Frame.at, Tryd.func39, base, Tryd.f39] <;> rfl
  rw [e]
  refine LoneTo.goes (n := 26) ?_
  simp only [Tryd.f39, Option.getD_some]
  s_c stepG_seq
  s_reg
  s_op
  s_op
  s_c stepG_region_end
  s_c stepG_seq
  s_reg
  s_op
  s_c stepG_region_end
  s_c stepG_seq
  s_c stepG_seq
  s_reg
  s_op
  s_op
  s_c stepG_region_end
  s_cond false
  s_c stepG_skip
  s_c stepG_seq
  s_reg
  s_op
  s_op
  s_op
  s_op
  s_c stepG_region_end
  s_c stepG_seq
  s_reg
  s_stop
  refine LoneTo.step (step_lone_select_recv_buf (c := c) (cap := cap) (buf := ((v :: buf).map fun n : Nat => Value.pointer (some ⟨n, 0, none⟩)).toArray) (s := s) (r := r) (tm := false) (stepG_comm (cases := #[rcase c (.pointer none)]) (blocking := false) (shape := .select) (w' := W) rfl rfl (by decide) (by simp [go_sem, execOp, rcase, Act.eval])) hc (by simp)) ?_
  rw [Frame.finish_at]
  walk_nrm
  refine LoneTo.goes (n := 17) ?_
  s_op
  s_op
  s_c stepG_region_end
  s_c stepG_block
  s_cond true
  s_c stepG_seq
  s_reg
  s_op
  s_op
  s_c stepG_region_end
  s_c stepG_seq
  s_reg
  s_op
  s_op
  s_op
  s_c stepG_region_end
  s_c stepG_ret'
  s_stop
  refine LoneTo.done ⟨.returned (.tuple #[.pointer (some ⟨v, 0, none⟩), .bool true]), _, rfl, ⟨rfl, ?_⟩, rfl, rfl, rfl, rfl, _, Tryd.func39, by simp [results, Tryd.f39, Frame.at]⟩
  have h9 := HS.setChan (i := 1) rfl ((buf.map fun n : Nat => Value.pointer (some ⟨n, 0, none⟩))) s (r + 1)
  have ht : List.take buf.length (buf.map fun n : Nat => Value.pointer (some ⟨n, 0, none⟩)) = (buf.map fun n : Nat => Value.pointer (some ⟨n, 0, none⟩)) := List.take_of_length_le (by simp)
  simpa [ht] using h9

set_option maxRecDepth 100000 in
set_option maxHeartbeats 1000000 in
theorem pgetP_none (g c tb cap : Nat) (W : World) (M : Nat → Prop) (HS : St W M W [blk g [.chan (some c)] tb, chn c cap []]) : Calls Tryd.prog 39 #[.pointer (some ⟨g, 0, none⟩)] W fun e W' => e = .returned (.tuple #[.pointer none, .bool false]) ∧ St W M W' [blk g [.chan (some c)] tb, chn c cap []] := by
  have hcell := HS.cell (i := 0) (j := 0) rfl rfl
  obtain ⟨s, r, hc⟩ := HS.get (i := 1) rfl
  refine calls_of_loneTo (fun cs => ?_) (by rintro _ ⟨h, _⟩; cases h)
  have e : Frame.enter Tryd.prog 39 #[.pointer (some ⟨g, 0, none⟩)] .normal = (base 39).at ⟨#[.pointer (some ⟨g, 0, none⟩), undef, undef, undef, undef, undef, undef, undef, undef, undef, undef, undef, undef, undef, undef, undef, undef, undef, undef], []⟩ [.code (Tryd.f39.body.getD .skip)] := by
    simp [Frame.enter, Frame.at, Tryd.func39, base, Tryd.f39] <;> rfl
  rw [e]
  refine LoneTo.goes (n := 26) ?_
  simp only [Tryd.f39, Option.getD_some]
  s_c stepG_seq
  s_reg
  s_op
  s_op
  s_c stepG_region_end
  s_c stepG_seq
  s_reg
  s_op
  s_c stepG_region_end
  s_c stepG_seq
  s_c stepG_seq
  s_reg
  s_op
  s_op
  s_c stepG_region_end
  s_cond false
  s_c stepG_skip
  s_c stepG_seq
  s_reg
  s_op
  s_op
  s_op
  s_op
  s_c stepG_region_end
  s_c stepG_seq
  s_reg
  s_stop
  refine LoneTo.step (step_lone_select_default (c := c) (cap := cap) (s := s) (r := r) (tm := false) (stepG_comm (cases := #[rcase c (.pointer none)]) (blocking := false) (shape := .select) (w' := W) rfl rfl (by decide) (by simp [go_sem, execOp, rcase, Act.eval])) (by simpa using hc)) ?_
  rw [Frame.finish_at]
  walk_nrm
  refine LoneTo.goes (n := 12) ?_
  s_op
  s_op
  s_c stepG_region_end
  s_c stepG_block
  s_cond false
  s_c stepG_seq
  s_reg
  s_op
  s_op
  s_op
  s_c stepG_region_end
  s_c stepG_ret'
  s_stop
  exact LoneTo.done ⟨.returned (.tuple #[.pointer none, .bool false]), _, rfl, ⟨rfl, HS⟩, rfl, rfl, rfl, rfl, _, Tryd.func39, by simp [results, Tryd.f39, Frame.at]⟩


set_option maxRecDepth 100000 in
set_option maxHeartbeats 1000000 in
theorem plenS (g c cap : Nat) (xs : List ByteArray) (W : World) (hcell : W.cell? ⟨g, 0, none⟩ = some (.chan (some c))) (hbuf : (chn c cap (xs.map fun n : ByteArray => Value.string n)).P W) (hc : cap ≤ 65536) (hl : xs.length ≤ cap) : Calls Tryd.prog 49 #[.pointer (some ⟨g, 0, none⟩)] W fun e W' => e = .returned (.int .i64 (xs.length : Int)) ∧ St W (owns []) W' [] := by
  have HS : St W (owns []) W [] := St.start W _
  refine calls_enter [.pointer (some ⟨g, 0, none⟩), undef, undef, undef, undef, undef, undef, undef, undef, undef] Tryd.func49 rfl (by kernel_rfl) ?_
  refine wp_seq ?_
  refine wp_region_lit ?_
  refine ql (.int .i64 0) (by kernel_rfl) (by kernel_rfl) ?_
  refine wpList_nil ?_
  refine x_then ?_
  refine wp_seq ?_
  refine wp_seq ?_
  refine wp_region_lit ?_
  refine ql (.pointer (some ⟨g, 0, none⟩)) (by kernel_rfl) (by kernel_rfl) ?_
  refine ql (.bool false) (by kernel_rfl) (by kernel_rfl) ?_
  refine wpList_nil ?_
  refine x_then ?_
  refine wp_cond_false (by kernel_rfl) ?_
  refine wp_skip ?_
  refine x_then ?_
  refine wp_seq ?_
  refine wp_region_lit ?_
  refine ql (.pointer (some ⟨g, 0, none⟩)) (by kernel_rfl) (by kernel_rfl) ?_
  refine ql (.pointer (some ⟨g, 0, none⟩)) (by kernel_rfl) (by kernel_rfl) ?_
  refine ql (.pointer (some ⟨g, 0, none⟩)) (by kernel_rfl) (by kernel_rfl) ?_
  refine ql (.chan (some c)) (by kernel_rfl) (R_load (p := ⟨g, 0, none⟩) (by kernel_rfl) (by kernel_rfl) (by kernel_rfl) (HS.old0 hcell)) ?_
  refine ql (.int .i64 (xs.length : Int)) (by kernel_rfl) (R_eq (R_lenC (chn_k HS.kept.nil hbuf) (by kernel_rfl) Tryd.underlying96) (by rw [List.length_map])) ?_
  refine ql (.int .i64 (xs.length : Int)) (by kernel_rfl) (by kernel_rfl) ?_
  refine wpList_nil ?_
  refine x_then ?_
  refine wp_ret ?_
  refine ret_ (.int .i64 (xs.length : Int)) (by kernel_rfl) ?_
  exact ⟨rfl, HS⟩

set_option maxRecDepth 100000 in
set_option maxHeartbeats 1000000 in
theorem proomS (g c cap : Nat) (xs : List ByteArray) (W : World) (hcell : W.cell? ⟨g, 0, none⟩ = some (.chan (some c))) (hbuf : (chn c cap (xs.map fun n : ByteArray => Value.string n)).P W) (hc : cap ≤ 65536) (hl : xs.length ≤ cap) : Calls Tryd.prog 50 #[.pointer (some ⟨g, 0, none⟩)] W fun e W' => e = .returned (.int .i64 ((cap : Int) - (xs.length : Int))) ∧ St W (owns []) W' [] := by
  have HS : St W (owns []) W [] := St.start W _
  refine calls_enter [.pointer (some ⟨g, 0, none⟩), undef, undef, undef, undef, undef, undef, undef, undef, undef, undef, undef, undef, undef, undef, undef] Tryd.func50 rfl (by kernel_rfl) ?_
  refine wp_seq ?_
  refine wp_region_lit ?_
  refine ql (.int .i64 0) (by kernel_rfl) (by kernel_rfl) ?_
  refine wpList_nil ?_
  refine x_then ?_
  refine wp_seq ?_
  refine wp_seq ?_
  refine wp_region_lit ?_
  refine ql (.pointer (some ⟨g, 0, none⟩)) (by kernel_rfl) (by kernel_rfl) ?_
  refine ql (.bool false) (by kernel_rfl) (by kernel_rfl) ?_
  refine wpList_nil ?_
  refine x_then ?_
  refine wp_cond_false (by kernel_rfl) ?_
  refine wp_skip ?_
  refine x_then ?_
  refine wp_seq ?_
  refine rg_still HS 11 (by kernel_rfl) (by kernel_rfl) ?_
  intro W1 H_ HK_
  simp only [List.take_succ_cons, List.take_zero, List.drop_succ_cons, List.drop_zero]
  replace HS : St W (owns []) W1 [] := H_
  clear H_
  clear HK_
  refine qs (.pointer (some ⟨g, 0, none⟩)) (by kernel_rfl) (by kernel_rfl) ?_
  refine qs (.pointer (some ⟨g, 0, none⟩)) (by kernel_rfl) (by kernel_rfl) ?_
  refine qs (.pointer (some ⟨g, 0, none⟩)) (by kernel_rfl) (by kernel_rfl) ?_
  refine qs (.chan (some c)) (by kernel_rfl) (R_load (p := ⟨g, 0, none⟩) (by kernel_rfl) (by kernel_rfl) (by kernel_rfl) (HS.old0 hcell)) ?_
  refine qs (.int .i64 (cap : Int)) (by kernel_rfl) (R_capC (chn_k HS.kept.nil hbuf) (by kernel_rfl) Tryd.underlying96) ?_
  refine qs (.pointer (some ⟨g, 0, none⟩)) (by kernel_rfl) (by kernel_rfl) ?_
  refine qs (.pointer (some ⟨g, 0, none⟩)) (by kernel_rfl) (by kernel_rfl) ?_
  refine qs (.pointer (some ⟨g, 0, none⟩)) (by kernel_rfl) (by kernel_rfl) ?_
  refine qs (.chan (some c)) (by kernel_rfl) (R_load (p := ⟨g, 0, none⟩) (by kernel_rfl) (by kernel_rfl) (by kernel_rfl) (HS.old0 hcell)) ?_
  refine qs (.int .i64 (xs.length : Int)) (by kernel_rfl) (R_eq (R_lenC (chn_k HS.kept.nil hbuf) (by kernel_rfl) Tryd.underlying96) (by rw [List.length_map])) ?_
  refine qs (.int .i64 ((cap : Int) - (xs.length : Int))) (by kernel_rfl) (R_int (by kernel_rfl) (w64 (by omega))) ?_
  refine wpStill_nil ?_
  refine ql (.int .i64 ((cap : Int) - (xs.length : Int))) (by kernel_rfl) (by kernel_rfl) ?_
  refine wpList_nil ?_
  refine x_then ?_
  refine wp_ret ?_
  refine ret_ (.int .i64 ((cap : Int) - (xs.length : Int))) (by kernel_rfl) ?_
  exact ⟨rfl, HS⟩

set_option maxRecDepth 100000 in
set_option maxHeartbeats 1000000 in
theorem pnewS_ok (cap : Nat) (W : World) (h0 : 1 ≤ cap) (h1 : cap ≤ 65536) : Calls Tryd.prog 46 #[.int .i64 (cap : Int)] W fun e W' => ∃ g c, e = .returned (.tuple #[.pointer (some ⟨g, 0, none⟩), .int .i64 0]) ∧ St W (owns []) W' [blk g [.chan (some c)] 98, chn c cap (([] : List ByteArray).map fun n : ByteArray => Value.string n)] := by
  have HS : St W (owns []) W [] := St.start W _
  refine calls_enter [.int .i64 (cap : Int), undef, undef, undef, undef, undef, undef, undef, undef, undef, undef, undef, undef, undef] Tryd.func46 rfl (by kernel_rfl) ?_
  refine wp_seq ?_
  refine wp_region_lit ?_
  refine ql (.pointer none) (by kernel_rfl) (by kernel_rfl) ?_
  refine ql (.int .i64 0) (by kernel_rfl) (by kernel_rfl) ?_
  refine wpList_nil ?_
  refine x_then ?_
  refine wp_seq ?_
  refine wp_block ?_
  refine wp_seq ?_
  refine wp_region_lit ?_
  refine ql (.int .i64 (cap : Int)) (by kernel_rfl) (by kernel_rfl) ?_
  refine ql (.bool false) (by kernel_rfl) (R_nbool (p := (cap : Int) < (1 : Int)) (by kernel_rfl) (by omega)) ?_
  refine ql (.bool false) (by kernel_rfl) (by kernel_rfl) ?_
  refine wpList_nil ?_
  refine x_then ?_
  refine wp_cond_false (by kernel_rfl) ?_
  refine wp_seq ?_
  refine wp_region_lit ?_
  refine ql (.int .i64 (cap : Int)) (by kernel_rfl) (by kernel_rfl) ?_
  refine ql (.bool false) (by kernel_rfl) (R_nbool (p := (cap : Int) > (65536 : Int)) (by kernel_rfl) (by omega)) ?_
  refine ql (.bool false) (by kernel_rfl) (by kernel_rfl) ?_
  refine wpList_nil ?_
  refine x_then ?_
  refine wp_cond_false (by kernel_rfl) ?_
  refine wp_skip ?_
  refine x_inb ?_
  refine x_then ?_
  refine wp_seq ?_
  refine wp_region_lit ?_
  refine ql (.int .i64 (cap : Int)) (by kernel_rfl) (by kernel_rfl) ?_
  refine kmc (b := 16) HS (cap) (by kernel_rfl) (k_eq (k := .i64) (m := (cap : Int)) (by kernel_rfl) (by omega)) Tryd.underlying96 (by kernel_rfl) (by omega) (by decide) ?_
  intro c1 W2 H_
  replace HS : St W (owns []) W2 [chn c1 cap (([] : List ByteArray).map fun n : ByteArray => Value.string n)] := H_.cast_ (by rfl)
  clear H_
  refine ql (.agg #[.chan (some c1)]) (by kernel_rfl) (by kernel_rfl) ?_
  refine kb HS [.chan (some c1)] 98 (fun g => .pointer (some ⟨g, 0, none⟩)) (by kernel_rfl) (by kernel_rfl) ?_
  intro g3 W4 H_
  replace HS : St W (owns []) W4 [blk g3 [.chan (some c1)] 98, chn c1 cap (([] : List ByteArray).map fun n : ByteArray => Value.string n)] := H_
  clear H_
  refine ql (.pointer (some ⟨g3, 0, none⟩)) (by kernel_rfl) (by kernel_rfl) ?_
  refine ql (.int .i64 0) (by kernel_rfl) (by kernel_rfl) ?_
  refine wpList_nil ?_
  refine x_then ?_
  refine wp_ret ?_
  refine ret_ (.tuple #[.pointer (some ⟨g3, 0, none⟩), .int .i64 0]) (by kernel_rfl) ?_
  exact ⟨_, _, rfl, HS⟩

set_option maxRecDepth 100000 in
set_option maxHeartbeats 1000000 in
theorem pnewP_arg (r : Int) (W : World) (hr : r < 1) : Calls Tryd.prog 44 #[.int .i64 r] W fun e W' => e = .returned (.tuple #[.pointer none, .int .i64 2]) ∧ St W (owns []) W' [] := by
  have HS : St W (owns []) W [] := St.start W _
  refine calls_enter [.int .i64 r, undef, undef, undef, undef, undef, undef, undef, undef, undef, undef, undef, undef, undef] Tryd.func44 rfl (by kernel_rfl) ?_
  refine wp_seq ?_
  refine wp_region_lit ?_
  refine ql (.pointer none) (by kernel_rfl) (by kernel_rfl) ?_
  refine ql (.int .i64 0) (by kernel_rfl) (by kernel_rfl) ?_
  refine wpList_nil ?_
  refine x_then ?_
  refine wp_seq ?_
  refine wp_block ?_
  refine wp_seq ?_
  refine wp_region_lit ?_
  refine ql (.int .i64 r) (by kernel_rfl) (by kernel_rfl) ?_
  refine ql (.bool true) (by kernel_rfl) (R_bool (p := r < (1 : Int)) (by kernel_rfl) (by omega)) ?_
  refine ql (.bool true) (by kernel_rfl) (by kernel_rfl) ?_
  refine wpList_nil ?_
  refine x_then ?_
  refine wp_cond_true (by kernel_rfl) ?_
  refine wp_seq ?_
  refine wp_region_lit ?_
  refine ql (.pointer none) (by kernel_rfl) (by kernel_rfl) ?_
  refine ql (.int .i64 2) (by kernel_rfl) (by kernel_rfl) ?_
  refine wpList_nil ?_
  refine x_then ?_
  refine wp_ret ?_
  refine x_inbR ?_
  refine x_thenR ?_
  refine ret_ (.tuple #[.pointer none, .int .i64 2]) (by kernel_rfl) ?_
  exact ⟨rfl, HS⟩

set_option maxRecDepth 100000 in
set_option maxHeartbeats 1000000 in
theorem pnewP_ok (cap : Nat) (W : World) (h0 : 1 ≤ cap) (h1 : cap ≤ 65536) : Calls Tryd.prog 44 #[.int .i64 (cap : Int)] W fun e W' => ∃ g c, e = .returned (.tuple #[.pointer (some ⟨g, 0, none⟩), .int .i64 0]) ∧ St W (owns []) W' [blk g [.chan (some c)] 95, chn c cap (([] : List Nat).map fun n : Nat => Value.pointer (some ⟨n, 0, none⟩))] := by
  have HS : St W (owns []) W [] := St.start W _
  refine calls_enter [.int .i64 (cap : Int), undef, undef, undef, undef, undef, undef, undef, undef, undef, undef, undef, undef, undef] Tryd.func44 rfl (by kernel_rfl) ?_
  refine wp_seq ?_
  refine wp_region_lit ?_
  refine ql (.pointer none) (by kernel_rfl) (by kernel_rfl) ?_
  refine ql (.int .i64 0) (by kernel_rfl) (by kernel_rfl) ?_
  refine wpList_nil ?_
  refine x_then ?_
  refine wp_seq ?_
  refine wp_block ?_
  refine wp_seq ?_
  refine wp_region_lit ?_
  refine ql (.int .i64 (cap : Int)) (by kernel_rfl) (by kernel_rfl) ?_
  refine ql (.bool false) (by kernel_rfl) (R_nbool (p := (cap : Int) < (1 : Int)) (by kernel_rfl) (by omega)) ?_
  refine ql (.bool false) (by kernel_rfl) (by kernel_rfl) ?_
  refine wpList_nil ?_
  refine x_then ?_
  refine wp_cond_false (by kernel_rfl) ?_
  refine wp_seq ?_
  refine wp_region_lit ?_
  refine ql (.int .i64 (cap : Int)) (by kernel_rfl) (by kernel_rfl) ?_
  refine ql (.bool false) (by kernel_rfl) (R_nbool (p := (cap : Int) > (65536 : Int)) (by kernel_rfl) (by omega)) ?_
  refine ql (.bool false) (by kernel_rfl) (by kernel_rfl) ?_
  refine wpList_nil ?_
  refine x_then ?_
  refine wp_cond_false (by kernel_rfl) ?_
  refine wp_skip ?_
  refine x_inb ?_
  refine x_then ?_
  refine wp_seq ?_
  refine wp_region_lit ?_
  refine ql (.int .i64 (cap : Int)) (by kernel_rfl) (by kernel_rfl) ?_
  refine kmc (b := 8) HS (cap) (by kernel_rfl) (k_eq (k := .i64) (m := (cap : Int)) (by kernel_rfl) (by omega)) Tryd.underlying93 (by kernel_rfl) (by omega) (by decide) ?_
  intro c1 W2 H_
  replace HS : St W (owns []) W2 [chn c1 cap (([] : List Nat).map fun n : Nat => Value.pointer (some ⟨n, 0, none⟩))] := H_.cast_ (by rfl)
  clear H_
  refine ql (.agg #[.chan (some c1)]) (by kernel_rfl) (by kernel_rfl) ?_
  refine kb HS [.chan (some c1)] 95 (fun g => .pointer (some ⟨g, 0, none⟩)) (by kernel_rfl) (by kernel_rfl) ?_
  intro g3 W4 H_
  replace HS : St W (owns []) W4 [blk g3 [.chan (some c1)] 95, chn c1 cap (([] : List Nat).map fun n : Nat => Value.pointer (some ⟨n, 0, none⟩))] := H_
  clear H_
  refine ql (.pointer (some ⟨g3, 0, none⟩)) (by kernel_rfl) (by kernel_rfl) ?_
  refine ql (.int .i64 0) (by kernel_rfl) (by kernel_rfl) ?_
  refine wpList_nil ?_
  refine x_then ?_
  refine wp_ret ?_
  refine ret_ (.tuple #[.pointer (some ⟨g3, 0, none⟩), .int .i64 0]) (by kernel_rfl) ?_
  exact ⟨_, _, rfl, HS⟩

set_option maxRecDepth 100000 in
set_option maxHeartbeats 1000000 in
theorem awake39 (W : World) : Calls Tryd.prog 20 #[] W fun e W' => e = .returned (.bool true) ∧ St W (owns []) W' [] := by
  have HS : St W (owns []) W [] := St.start W _
  refine calls_enter (undef :: undef :: undef :: undef :: undef :: undef :: undef :: undef :: undef :: undef :: undef :: undef :: undef :: undef :: undef :: undef :: undef :: undef :: undef :: undef :: undef :: undef :: undef :: undef :: undef :: undef :: undef :: undef :: undef :: undef :: undef :: undef :: undef :: undef :: undef :: undef :: undef :: undef :: undef :: undef :: undef :: undef :: undef :: undef :: undef :: undef :: undef :: undef :: undef :: undef :: undef :: undef :: []) Tryd.func20 rfl (by kernel_rfl) ?_
  refine wp_seq ?_
  refine wp_region_lit ?_
  refine ql (.bool false) (by kernel_rfl) (by kernel_rfl) ?_
  refine wpList_nil ?_
  refine x_then ?_
  refine wp_seq ?_
  refine wp_region_lit ?_
  refine qc (f := 46) (args := #[.int .i64 2]) (by kernel_rfl) (R_call #[.int .i64 2] Tryd.func46 (by kernel_rfl) (by kernel_rfl) (by kernel_rfl)) ?_
  refine (pnewS_ok 2 _ (by decide) (by decide)).mono ?_
  rintro e W1 ⟨g, c, rfl, H_⟩
  refine ⟨_, rfl, ?_⟩
  replace HS : St W (owns []) W1 [blk g [.chan (some c)] 98, chn c 2 (([] : List ByteArray).map fun n : ByteArray => Value.string n)] := HS.join (F := []) (G := [blk g [.chan (some c)] 98, chn c 2 (([] : List ByteArray).map fun n : ByteArray => Value.string n)]) H_
  clear H_
  refine ql (.tuple #[.pointer (some ⟨g, 0, none⟩), .int .i64 0]) (by kernel_rfl) (by kernel_rfl) ?_
  refine ql (.pointer (some ⟨g, 0, none⟩)) (by kernel_rfl) (by kernel_rfl) ?_
  refine ql (.int .i64 0) (by kernel_rfl) (by kernel_rfl) ?_
  refine ql (.pointer (some ⟨g, 0, none⟩)) (by kernel_rfl) (by kernel_rfl) ?_
  refine ql (.int .i64 0) (by kernel_rfl) (by kernel_rfl) ?_
  refine wpList_nil ?_
  refine x_then ?_
  refine wp_seq ?_
  refine wp_region_lit ?_
  refine ql (.pointer (some ⟨g, 0, none⟩)) (by kernel_rfl) (by kernel_rfl) ?_
  refine qc (f := 47) (args := #[.pointer (some ⟨g, 0, none⟩), .string (⟨#[97]⟩)]) (by kernel_rfl) (R_call #[.pointer (some ⟨g, 0, none⟩), .string (⟨#[97]⟩)] Tryd.func47 (by kernel_rfl) (by kernel_rfl) (by kernel_rfl)) ?_
  refine (pputS_room g c 98 2 ([] : List ByteArray) ⟨#[97]⟩ _ _ (St.focus (F := [blk g [.chan (some c)] 98, chn c 2 (([] : List ByteArray).map fun n : ByteArray => Value.string n)]) HS) (by decide)).mono ?_
  rintro e W2 ⟨rfl, H_⟩
  refine ⟨_, rfl, ?_⟩
  replace HS : St W (owns []) W2 [blk g [.chan (some c)] 98, chn c 2 (([(⟨#[97]⟩ : ByteArray)]).map fun n : ByteArray => Value.string n)] := HS.join (F := [blk g [.chan (some c)] 98, chn c 2 (([] : List ByteArray).map fun n : ByteArray => Value.string n)]) (G := [blk g [.chan (some c)] 98, chn c 2 (([(⟨#[97]⟩ : ByteArray)]).map fun n : ByteArray => Value.string n)]) H_
  clear H_
  refine ql (.pointer (some ⟨g, 0, none⟩)) (by kernel_rfl) (by kernel_rfl) ?_
  refine qc (f := 47) (args := #[.pointer (some ⟨g, 0, none⟩), .string (⟨#[98]⟩)]) (by kernel_rfl) (R_call #[.pointer (some ⟨g, 0, none⟩), .string (⟨#[98]⟩)] Tryd.func47 (by kernel_rfl) (by kernel_rfl) (by kernel_rfl)) ?_
  refine (pputS_room g c 98 2 [(⟨#[97]⟩ : ByteArray)] ⟨#[98]⟩ _ _ (St.focus (F := [blk g [.chan (some c)] 98, chn c 2 (([(⟨#[97]⟩ : ByteArray)]).map fun n : ByteArray => Value.string n)]) HS) (by decide)).mono ?_
  rintro e W3 ⟨rfl, H_⟩
  refine ⟨_, rfl, ?_⟩
  replace HS : St W (owns []) W3 [blk g [.chan (some c)] 98, chn c 2 (([(⟨#[97]⟩ : ByteArray), ⟨#[98]⟩]).map fun n : ByteArray => Value.string n)] := HS.join (F := [blk g [.chan (some c)] 98, chn c 2 (([(⟨#[97]⟩ : ByteArray)]).map fun n : ByteArray => Value.string n)]) (G := [blk g [.chan (some c)] 98, chn c 2 (([(⟨#[97]⟩ : ByteArray), ⟨#[98]⟩]).map fun n : ByteArray => Value.string n)]) H_
  clear H_
  refine ql (.pointer (some ⟨g, 0, none⟩)) (by kernel_rfl) (by kernel_rfl) ?_
  refine qc (f := 47) (args := #[.pointer (some ⟨g, 0, none⟩), .string (⟨#[99]⟩)]) (by kernel_rfl) (R_call #[.pointer (some ⟨g, 0, none⟩), .string (⟨#[99]⟩)] Tryd.func47 (by kernel_rfl) (by kernel_rfl) (by kernel_rfl)) ?_
  refine (pputS_full g c 98 2 [(⟨#[97]⟩ : ByteArray), ⟨#[98]⟩] ⟨#[99]⟩ _ _ (St.focus (F := [blk g [.chan (some c)] 98, chn c 2 (([(⟨#[97]⟩ : ByteArray), ⟨#[98]⟩]).map fun n : ByteArray => Value.string n)]) HS) (by decide)).mono ?_
  rintro e W4 ⟨rfl, H_⟩
  refine ⟨_, rfl, ?_⟩
  replace HS : St W (owns []) W4 [blk g [.chan (some c)] 98, chn c 2 (([(⟨#[97]⟩ : ByteArray), ⟨#[98]⟩]).map fun n : ByteArray => Value.string n)] := HS.join (F := [blk g [.chan (some c)] 98, chn c 2 (([(⟨#[97]⟩ : ByteArray), ⟨#[98]⟩]).map fun n : ByteArray => Value.string n)]) (G := [blk g [.chan (some c)] 98, chn c 2 (([(⟨#[97]⟩ : ByteArray), ⟨#[98]⟩]).map fun n : ByteArray => Value.string n)]) H_
  clear H_
  refine ql (.bool true) (by kernel_rfl) (by kernel_rfl) ?_
  refine ql (.bool true) (by kernel_rfl) (by kernel_rfl) ?_
  refine ql (.bool false) (by kernel_rfl) (by kernel_rfl) ?_
  refine wpList_nil ?_
  refine x_then ?_
  refine wp_seq ?_
  refine wp_region_lit ?_
  refine ql (.pointer (some ⟨g, 0, none⟩)) (by kernel_rfl) (by kernel_rfl) ?_
  refine qc (f := 48) (args := #[.pointer (some ⟨g, 0, none⟩)]) (by kernel_rfl) (R_call #[.pointer (some ⟨g, 0, none⟩)] Tryd.func48 (by kernel_rfl) (by kernel_rfl) (by kernel_rfl)) ?_
  refine (pgetS_some g c 98 2 [(⟨#[98]⟩ : ByteArray)] ⟨#[97]⟩ _ _ (St.focus (F := [blk g [.chan (some c)] 98, chn c 2 (([(⟨#[97]⟩ : ByteArray), ⟨#[98]⟩]).map fun n : ByteArray => Value.string n)]) HS)).mono ?_
  rintro e W5 ⟨rfl, H_⟩
  refine ⟨_, rfl, ?_⟩
  replace HS : St W (owns []) W5 [blk g [.chan (some c)] 98, chn c 2 (([(⟨#[98]⟩ : ByteArray)]).map fun n : ByteArray => Value.string n)] := HS.join (F := [blk g [.chan (some c)] 98, chn c 2 (([(⟨#[97]⟩ : ByteArray), ⟨#[98]⟩]).map fun n : ByteArray => Value.string n)]) (G := [blk g [.chan (some c)] 98, chn c 2 (([(⟨#[98]⟩ : ByteArray)]).map fun n : ByteArray => Value.string n)]) H_
  clear H_
  refine ql (.tuple #[.string (⟨#[97]⟩), .bool true]) (by kernel_rfl) (by kernel_rfl) ?_
  refine ql (.string (⟨#[97]⟩)) (by kernel_rfl) (by kernel_rfl) ?_
  refine ql (.bool true) (by kernel_rfl) (by kernel_rfl) ?_
  refine ql (.string (⟨#[97]⟩)) (by kernel_rfl) (by kernel_rfl) ?_
  refine ql (.bool true) (by kernel_rfl) (by kernel_rfl) ?_
  refine wpList_nil ?_
  refine x_then ?_
  refine wp_seq ?_
  refine wp_region_lit ?_
  refine ql (.int .i64 0) (by kernel_rfl) (by kernel_rfl) ?_
  refine ql (.bool true) (by kernel_rfl) (R_beq (b := ((0 : Int) == 0)) (by kernel_rfl) (by decide)) ?_
  refine ql (.bool true) (by kernel_rfl) (by kernel_rfl) ?_
  refine ql (.bool true) (by kernel_rfl) (by kernel_rfl) ?_
  refine ql (.bool true) (by kernel_rfl) (by kernel_rfl) ?_
  refine ql (.bool true) (by kernel_rfl) (by kernel_rfl) ?_
  refine ql (.bool true) (by kernel_rfl) (by kernel_rfl) ?_
  refine ql (.bool true) (by kernel_rfl) (by kernel_rfl) ?_
  refine ql (.bool true) (by kernel_rfl) (by kernel_rfl) ?_
  refine ql (.bool false) (by kernel_rfl) (by kernel_rfl) ?_
  refine ql (.bool true) (by kernel_rfl) (by kernel_rfl) ?_
  refine ql (.bool true) (by kernel_rfl) (by kernel_rfl) ?_
  refine ql (.bool true) (by kernel_rfl) (by kernel_rfl) ?_
  refine ql (.string (⟨#[97]⟩)) (by kernel_rfl) (by kernel_rfl) ?_
  refine ql (.bool true) (by kernel_rfl) (by kernel_rfl) ?_
  refine ql (.bool true) (by kernel_rfl) (by kernel_rfl) ?_
  refine ql (.bool true) (by kernel_rfl) (by kernel_rfl) ?_
  refine ql (.bool true) (by kernel_rfl) (by kernel_rfl) ?_
  refine ql (.bool true) (by kernel_rfl) (by kernel_rfl) ?_
  refine ql (.bool true) (by kernel_rfl) (by kernel_rfl) ?_
  refine ql (.pointer (some ⟨g, 0, none⟩)) (by kernel_rfl) (by kernel_rfl) ?_
  refine qc (f := 49) (args := #[.pointer (some ⟨g, 0, none⟩)]) (by kernel_rfl) (R_call #[.pointer (some ⟨g, 0, none⟩)] Tryd.func49 (by kernel_rfl) (by kernel_rfl) (by kernel_rfl)) ?_
  refine (plenS g c 2 [(⟨#[98]⟩ : ByteArray)] _ (HS.cell (i := 0) (j := 0) rfl rfl) (HS.get (i := 1) rfl) (by decide) (by decide)).mono ?_
  rintro e W6 ⟨rfl, H_⟩
  refine ⟨_, rfl, ?_⟩
  replace HS : St W (owns []) W6 [blk g [.chan (some c)] 98, chn c 2 (([(⟨#[98]⟩ : ByteArray)]).map fun n : ByteArray => Value.string n)] := HS.join (F := []) (G := []) H_
  clear H_
  refine ql (.bool true) (by kernel_rfl) (R_beq (b := ((1 : Int) == 1)) (by kernel_rfl) (by decide)) ?_
  refine ql (.bool true) (by kernel_rfl) (by kernel_rfl) ?_
  refine ql (.bool true) (by kernel_rfl) (by kernel_rfl) ?_
  refine ql (.pointer (some ⟨g, 0, none⟩)) (by kernel_rfl) (by kernel_rfl) ?_
  refine qc (f := 50) (args := #[.pointer (some ⟨g, 0, none⟩)]) (by kernel_rfl) (R_call #[.pointer (some ⟨g, 0, none⟩)] Tryd.func50 (by kernel_rfl) (by kernel_rfl) (by kernel_rfl)) ?_
  refine (proomS g c 2 [(⟨#[98]⟩ : ByteArray)] _ (HS.cell (i := 0) (j := 0) rfl rfl) (HS.get (i := 1) rfl) (by decide) (by decide)).mono ?_
  rintro e W7 ⟨rfl, H_⟩
  refine ⟨_, rfl, ?_⟩
  replace HS : St W (owns []) W7 [blk g [.chan (some c)] 98, chn c 2 (([(⟨#[98]⟩ : ByteArray)]).map fun n : ByteArray => Value.string n)] := HS.join (F := []) (G := []) H_
  clear H_
  refine ql (.bool true) (by kernel_rfl) (R_beq (b := ((1 : Int) == 1)) (by kernel_rfl) (by decide)) ?_
  refine ql (.bool true) (by kernel_rfl) (by kernel_rfl) ?_
  refine ql (.bool true) (by kernel_rfl) (by kernel_rfl) ?_
  refine wpList_nil ?_
  refine x_then ?_
  refine wp_ret ?_
  refine ret_ (.bool true) (by kernel_rfl) ?_
  exact ⟨rfl, HS.tail (F := [blk g [.chan (some c)] 98, chn c 2 (([(⟨#[98]⟩ : ByteArray)]).map fun n : ByteArray => Value.string n)])⟩


theorem pnewP_okI (b : Int) (W : World) (h0 : 1 ≤ b) (h1 : b ≤ 65536) : Calls Tryd.prog 44 #[.int .i64 b] W fun e W' => ∃ g c, e = .returned (.tuple #[.pointer (some ⟨g, 0, none⟩), .int .i64 0]) ∧ St W (owns []) W' [blk g [.chan (some c)] 95, chn c b.toNat (([] : List Nat).map fun n : Nat => Value.pointer (some ⟨n, 0, none⟩))] := by
  have h := pnewP_ok b.toNat W (by omega) (by omega)
  rwa [Int.toNat_of_nonneg (by omega : 0 ≤ b)] at h

set_option maxRecDepth 100000 in
set_option maxHeartbeats 1000000 in
theorem nsets_ok (size room : Int) (W : World) (h0 : 0 ≤ size) (h1 : size ≤ 1048576) (h2 : 1 ≤ room) (h3 : room ≤ 65536) : Calls Tryd.prog 17 #[.int .i64 size, .int .i64 room] W fun e W' => ∃ gs gp c, e = .returned (.tuple #[.pointer (some ⟨gs, 0, none⟩), .int .i64 0]) ∧ St W (owns []) W' [blk gs [.pointer (some ⟨gp, 0, none⟩), .int .i64 size, .int .i64 0] 67, blk gp [.chan (some c)] 95, chn c room.toNat ((wptr ([] : List Ws)).map fun n : Nat => Value.pointer (some ⟨n, 0, none⟩)), many (rsE 77 74 size (wRw ([] : List Ws)))] := by
  have HS : St W (owns []) W [] := St.start W _
  refine calls_enter [.int .i64 size, .int .i64 room, undef, undef, undef, undef, undef, undef, undef, undef, undef, undef, undef, undef, undef, undef, undef, undef, undef, undef, undef, undef, undef, undef, undef, undef, undef, undef, undef, undef] Tryd.func17 rfl (by kernel_rfl) ?_
  refine wp_seq ?_
  refine wp_region_lit ?_
  refine ql (.pointer none) (by kernel_rfl) (by kernel_rfl) ?_
  refine ql (.int .i64 0) (by kernel_rfl) (by kernel_rfl) ?_
  refine wpList_nil ?_
  refine x_then ?_
  refine wp_seq ?_
  refine wp_seq ?_
  refine wp_region_lit ?_
  refine ql (.int .i64 size) (by kernel_rfl) (by kernel_rfl) ?_
  refine qc (f := 40) (args := #[.int .i64 size]) (by kernel_rfl) (R_call #[.int .i64 size] Tryd.func40 (by kernel_rfl) (by kernel_rfl) (by kernel_rfl)) ?_
  refine (dnew_ok size _ h0 h1).mono ?_
  rintro e W1 ⟨g9, a9, c9, ws9, rfl, H_, hR9⟩
  refine ⟨_, rfl, ?_⟩
  replace HS : St W (owns []) W1 [blk g9 [.slice (some ⟨a9, 0, none⟩) ws9.length c9, .int .i64 size] 77, row (some ⟨a9, 0, none⟩) ws9.length c9 (ci .u64 ws9) 74 1] := HS.join (F := []) (G := [blk g9 [.slice (some ⟨a9, 0, none⟩) ws9.length c9, .int .i64 size] 77, row (some ⟨a9, 0, none⟩) ws9.length c9 (ci .u64 ws9) 74 1]) H_
  clear H_
  refine ql (.tuple #[.pointer (some ⟨g9, 0, none⟩), .int .i64 0]) (by kernel_rfl) (by kernel_rfl) ?_
  refine ql (.pointer (some ⟨g9, 0, none⟩)) (by kernel_rfl) (by kernel_rfl) ?_
  refine ql (.int .i64 0) (by kernel_rfl) (by kernel_rfl) ?_
  refine ql (.pointer (some ⟨g9, 0, none⟩)) (by kernel_rfl) (by kernel_rfl) ?_
  refine ql (.int .i64 0) (by kernel_rfl) (by kernel_rfl) ?_
  refine wpList_nil ?_
  refine x_then ?_
  refine wp_seq ?_
  refine wp_region_lit ?_
  refine ql (.int .i64 0) (by kernel_rfl) (by kernel_rfl) ?_
  refine ql (.bool false) (by kernel_rfl) (R_beq (b := ((0 : Int) != 0)) (by kernel_rfl) (by decide)) ?_
  refine wpList_nil ?_
  refine x_then ?_
  refine wp_cond_false (by kernel_rfl) ?_
  refine wp_skip ?_
  refine x_then ?_
  refine wp_seq ?_
  refine wp_region_lit ?_
  refine ql (.int .i64 room) (by kernel_rfl) (by kernel_rfl) ?_
  refine qc (f := 44) (args := #[.int .i64 room]) (by kernel_rfl) (R_call #[.int .i64 room] Tryd.func44 (by kernel_rfl) (by kernel_rfl) (by kernel_rfl)) ?_
  refine (pnewP_okI room _ h2 h3).mono ?_
  rintro e W2 ⟨gp, c, rfl, H_⟩
  refine ⟨_, rfl, ?_⟩
  replace HS : St W (owns []) W2 [blk gp [.chan (some c)] 95, chn c room.toNat (([] : List Nat).map fun n : Nat => Value.pointer (some ⟨n, 0, none⟩)), blk g9 [.slice (some ⟨a9, 0, none⟩) ws9.length c9, .int .i64 size] 77, row (some ⟨a9, 0, none⟩) ws9.length c9 (ci .u64 ws9) 74 1] := HS.join (F := []) (G := [blk gp [.chan (some c)] 95, chn c room.toNat (([] : List Nat).map fun n : Nat => Value.pointer (some ⟨n, 0, none⟩))]) H_
  clear H_
  refine ql (.tuple #[.pointer (some ⟨gp, 0, none⟩), .int .i64 0]) (by kernel_rfl) (by kernel_rfl) ?_
  refine ql (.pointer (some ⟨gp, 0, none⟩)) (by kernel_rfl) (by kernel_rfl) ?_
  refine ql (.int .i64 0) (by kernel_rfl) (by kernel_rfl) ?_
  refine ql (.pointer (some ⟨gp, 0, none⟩)) (by kernel_rfl) (by kernel_rfl) ?_
  refine ql (.int .i64 0) (by kernel_rfl) (by kernel_rfl) ?_
  refine wpList_nil ?_
  refine x_then ?_
  refine wp_seq ?_
  refine wp_seq ?_
  refine wp_region_lit ?_
  refine ql (.int .i64 0) (by kernel_rfl) (by kernel_rfl) ?_
  refine ql (.bool false) (by kernel_rfl) (R_beq (b := ((0 : Int) != 0)) (by kernel_rfl) (by decide)) ?_
  refine wpList_nil ?_
  refine x_then ?_
  refine wp_cond_false (by kernel_rfl) ?_
  refine wp_skip ?_
  refine x_then ?_
  refine wp_seq ?_
  refine wp_region_lit ?_
  refine ql (.pointer (some ⟨gp, 0, none⟩)) (by kernel_rfl) (by kernel_rfl) ?_
  refine ql (.int .i64 size) (by kernel_rfl) (by kernel_rfl) ?_
  refine ql (.agg #[.pointer (some ⟨gp, 0, none⟩), .int .i64 size, .int .i64 0]) (by kernel_rfl) (by kernel_rfl) ?_
  refine kb HS [.pointer (some ⟨gp, 0, none⟩), .int .i64 size, .int .i64 0] 67 (fun g => .pointer (some ⟨g, 0, none⟩)) (by kernel_rfl) (by kernel_rfl) ?_
  intro g3 W4 H_
  replace HS : St W (owns []) W4 [blk g3 [.pointer (some ⟨gp, 0, none⟩), .int .i64 size, .int .i64 0] 67, blk gp [.chan (some c)] 95, chn c room.toNat (([] : List Nat).map fun n : Nat => Value.pointer (some ⟨n, 0, none⟩)), blk g9 [.slice (some ⟨a9, 0, none⟩) ws9.length c9, .int .i64 size] 77, row (some ⟨a9, 0, none⟩) ws9.length c9 (ci .u64 ws9) 74 1] := H_
  clear H_
  refine ql (.pointer (some ⟨g3, 0, none⟩)) (by kernel_rfl) (by kernel_rfl) ?_
  refine ql (.int .i64 0) (by kernel_rfl) (by kernel_rfl) ?_
  refine wpList_nil ?_
  refine x_then ?_
  refine wp_ret ?_
  refine ret_ (.tuple #[.pointer (some ⟨g3, 0, none⟩), .int .i64 0]) (by kernel_rfl) ?_
  replace HS : St W (owns []) W4 [blk g3 [.pointer (some ⟨gp, 0, none⟩), .int .i64 size, .int .i64 0] 67, blk gp [.chan (some c)] 95, chn c room.toNat (([] : List Nat).map fun n : Nat => Value.pointer (some ⟨n, 0, none⟩))] := St.tail (F := [blk g9 [.slice (some ⟨a9, 0, none⟩) ws9.length c9, .int .i64 size] 77, row (some ⟨a9, 0, none⟩) ws9.length c9 (ci .u64 ws9) 74 1]) (HS.perm (perm_ [3, 4, 0, 1, 2] (by kernel_rfl) rfl))
  replace HS := HS.nilM
  replace HS := HS.perm (perm_ [1, 2, 3, 0] (by kernel_rfl) rfl)
  exact ⟨_, gp, c, rfl, HS⟩

set_option maxRecDepth 100000 in
set_option maxHeartbeats 1000000 in
theorem nsets_arg1 (size room : Int) (W : World) (h : size < 0) : Calls Tryd.prog 17 #[.int .i64 size, .int .i64 room] W fun e W' => e = .returned (.tuple #[.pointer none, .int .i64 2]) ∧ St W (owns []) W' [] := by
  have HS : St W (owns []) W [] := St.start W _
  refine calls_enter [.int .i64 size, .int .i64 room, undef, undef, undef, undef, undef, undef, undef, undef, undef, undef, undef, undef, undef, undef, undef, undef, undef, undef, undef, undef, undef, undef, undef, undef, undef, undef, undef, undef] Tryd.func17 rfl (by kernel_rfl) ?_
  refine wp_seq ?_
  refine wp_region_lit ?_
  refine ql (.pointer none) (by kernel_rfl) (by kernel_rfl) ?_
  refine ql (.int .i64 0) (by kernel_rfl) (by kernel_rfl) ?_
  refine wpList_nil ?_
  refine x_then ?_
  refine wp_seq ?_
  refine wp_seq ?_
  refine wp_region_lit ?_
  refine ql (.int .i64 size) (by kernel_rfl) (by kernel_rfl) ?_
  refine qc (f := 40) (args := #[.int .i64 size]) (by kernel_rfl) (R_call #[.int .i64 size] Tryd.func40 (by kernel_rfl) (by kernel_rfl) (by kernel_rfl)) ?_
  refine (dnew_arg size _ h).mono ?_
  rintro e W1 ⟨rfl, H_⟩
  refine ⟨_, rfl, ?_⟩
  replace HS : St W (owns []) W1 [] := HS.join (F := []) (G := []) H_
  clear H_
  refine ql (.tuple #[.pointer none, .int .i64 2]) (by kernel_rfl) (by kernel_rfl) ?_
  refine ql (.pointer none) (by kernel_rfl) (by kernel_rfl) ?_
  refine ql (.int .i64 2) (by kernel_rfl) (by kernel_rfl) ?_
  refine ql (.pointer none) (by kernel_rfl) (by kernel_rfl) ?_
  refine ql (.int .i64 2) (by kernel_rfl) (by kernel_rfl) ?_
  refine wpList_nil ?_
  refine x_then ?_
  refine wp_seq ?_
  refine wp_region_lit ?_
  refine ql (.int .i64 2) (by kernel_rfl) (by kernel_rfl) ?_
  refine ql (.bool true) (by kernel_rfl) (R_beq (b := ((2 : Int) != 0)) (by kernel_rfl) (by decide)) ?_
  refine wpList_nil ?_
  refine x_then ?_
  refine wp_cond_true (by kernel_rfl) ?_
  refine wp_seq ?_
  refine wp_region_lit ?_
  refine ql (.int .i64 2) (by kernel_rfl) (by kernel_rfl) ?_
  refine ql (.pointer none) (by kernel_rfl) (by kernel_rfl) ?_
  refine ql (.int .i64 2) (by kernel_rfl) (by kernel_rfl) ?_
  refine wpList_nil ?_
  refine x_then ?_
  refine wp_ret ?_
  refine x_thenR ?_
  refine ret_ (.tuple #[.pointer none, .int .i64 2]) (by kernel_rfl) ?_
  exact ⟨rfl, HS⟩

set_option maxRecDepth 100000 in
set_option maxHeartbeats 1000000 in
theorem nsets_arg2 (size room : Int) (W : World) (h0 : 0 ≤ size) (h1 : size ≤ 1048576) (h2 : room < 1) : Calls Tryd.prog 17 #[.int .i64 size, .int .i64 room] W fun e W' => e = .returned (.tuple #[.pointer none, .int .i64 2]) ∧ St W (owns []) W' [] := by
  have HS : St W (owns []) W [] := St.start W _
  refine calls_enter [.int .i64 size, .int .i64 room, undef, undef, undef, undef, undef, undef, undef, undef, undef, undef, undef, undef, undef, undef, undef, undef, undef, undef, undef, undef, undef, undef, undef, undef, undef, undef, undef, undef] Tryd.func17 rfl (by kernel_rfl) ?_
  refine wp_seq ?_
  refine wp_region_lit ?_
  refine ql (.pointer none) (by kernel_rfl) (by kernel_rfl) ?_
  refine ql (.int .i64 0) (by kernel_rfl) (by kernel_rfl) ?_
  refine wpList_nil ?_
  refine x_then ?_
  refine wp_seq ?_
  refine wp_seq ?_
  refine wp_region_lit ?_
  refine ql (.int .i64 size) (by kernel_rfl) (by kernel_rfl) ?_
  refine qc (f := 40) (args := #[.int .i64 size]) (by kernel_rfl) (R_call #[.int .i64 size] Tryd.func40 (by kernel_rfl) (by kernel_rfl) (by kernel_rfl)) ?_
  refine (dnew_ok size _ h0 h1).mono ?_
  rintro e W1 ⟨g9, a9, c9, ws9, rfl, H_, hR9⟩
  refine ⟨_, rfl, ?_⟩
  replace HS : St W (owns []) W1 [blk g9 [.slice (some ⟨a9, 0, none⟩) ws9.length c9, .int .i64 size] 77, row (some ⟨a9, 0, none⟩) ws9.length c9 (ci .u64 ws9) 74 1] := HS.join (F := []) (G := [blk g9 [.slice (some ⟨a9, 0, none⟩) ws9.length c9, .int .i64 size] 77, row (some ⟨a9, 0, none⟩) ws9.length c9 (ci .u64 ws9) 74 1]) H_
  clear H_
  refine ql (.tuple #[.pointer (some ⟨g9, 0, none⟩), .int .i64 0]) (by kernel_rfl) (by kernel_rfl) ?_
  refine ql (.pointer (some ⟨g9, 0, none⟩)) (by kernel_rfl) (by kernel_rfl) ?_
  refine ql (.int .i64 0) (by kernel_rfl) (by kernel_rfl) ?_
  refine ql (.pointer (some ⟨g9, 0, none⟩)) (by kernel_rfl) (by kernel_rfl) ?_
  refine ql (.int .i64 0) (by kernel_rfl) (by kernel_rfl) ?_
  refine wpList_nil ?_
  refine x_then ?_
  refine wp_seq ?_
  refine wp_region_lit ?_
  refine ql (.int .i64 0) (by kernel_rfl) (by kernel_rfl) ?_
  refine ql (.bool false) (by kernel_rfl) (R_beq (b := ((0 : Int) != 0)) (by kernel_rfl) (by decide)) ?_
  refine wpList_nil ?_
  refine x_then ?_
  refine wp_cond_false (by kernel_rfl) ?_
  refine wp_skip ?_
  refine x_then ?_
  refine wp_seq ?_
  refine wp_region_lit ?_
  refine ql (.int .i64 room) (by kernel_rfl) (by kernel_rfl) ?_
  refine qc (f := 44) (args := #[.int .i64 room]) (by kernel_rfl) (R_call #[.int .i64 room] Tryd.func44 (by kernel_rfl) (by kernel_rfl) (by kernel_rfl)) ?_
  refine (pnewP_arg room _ h2).mono ?_
  rintro e W2 ⟨rfl, H_⟩
  refine ⟨_, rfl, ?_⟩
  replace HS : St W (owns []) W2 [blk g9 [.slice (some ⟨a9, 0, none⟩) ws9.length c9, .int .i64 size] 77, row (some ⟨a9, 0, none⟩) ws9.length c9 (ci .u64 ws9) 74 1] := HS.join (F := []) (G := []) H_
  clear H_
  refine ql (.tuple #[.pointer none, .int .i64 2]) (by kernel_rfl) (by kernel_rfl) ?_
  refine ql (.pointer none) (by kernel_rfl) (by kernel_rfl) ?_
  refine ql (.int .i64 2) (by kernel_rfl) (by kernel_rfl) ?_
  refine ql (.pointer none) (by kernel_rfl) (by kernel_rfl) ?_
  refine ql (.int .i64 2) (by kernel_rfl) (by kernel_rfl) ?_
  refine wpList_nil ?_
  refine x_then ?_
  refine wp_seq ?_
  refine wp_seq ?_
  refine wp_region_lit ?_
  refine ql (.int .i64 2) (by kernel_rfl) (by kernel_rfl) ?_
  refine ql (.bool true) (by kernel_rfl) (R_beq (b := ((2 : Int) != 0)) (by kernel_rfl) (by decide)) ?_
  refine wpList_nil ?_
  refine x_then ?_
  refine wp_cond_true (by kernel_rfl) ?_
  refine wp_seq ?_
  refine wp_region_lit ?_
  refine ql (.int .i64 2) (by kernel_rfl) (by kernel_rfl) ?_
  refine ql (.pointer none) (by kernel_rfl) (by kernel_rfl) ?_
  refine ql (.int .i64 2) (by kernel_rfl) (by kernel_rfl) ?_
  refine wpList_nil ?_
  refine x_then ?_
  refine wp_ret ?_
  refine x_thenR ?_
  refine ret_ (.tuple #[.pointer none, .int .i64 2]) (by kernel_rfl) ?_
  replace HS := HS.drop1
  replace HS := HS.drop1
  exact ⟨rfl, HS⟩

set_option maxRecDepth 100000 in
set_option maxHeartbeats 1000000 in
theorem stake_new (gs gp c cap : Nat) (size made : Int) (W : World) (M : Nat → Prop) (HS : St W M W [blk gs [.pointer (some ⟨gp, 0, none⟩), .int .i64 size, .int .i64 made] 67, blk gp [.chan (some c)] 95, chn c cap ((wptr ([] : List Ws)).map fun n : Nat => Value.pointer (some ⟨n, 0, none⟩)), many (rsE 77 74 size (wRw ([] : List Ws)))]) (h0 : 0 ≤ size) (h1 : size ≤ 1048576) (hm0 : 0 ≤ made) (hm1 : made ≤ 1000000) : Calls Tryd.prog 14 #[.pointer (some ⟨gs, 0, none⟩)] W fun e W' => ∃ g a c1 ws, e = .returned (.pointer (some ⟨g, 0, none⟩)) ∧ St W M W' [blk g [.slice (some ⟨a, 0, none⟩) ws.length c1, .int .i64 size] 77, row (some ⟨a, 0, none⟩) ws.length c1 (ci .u64 ws) 74 1, blk gs [.pointer (some ⟨gp, 0, none⟩), .int .i64 size, .int .i64 (made + 1)] 67, blk gp [.chan (some c)] 95, chn c cap ((wptr ([] : List Ws)).map fun n : Nat => Value.pointer (some ⟨n, 0, none⟩)), many (rsE 77 74 size (wRw ([] : List Ws)))] ∧ Rep ws size [] := by
  refine calls_enter [.pointer (some ⟨gs, 0, none⟩), undef, undef, undef, undef, undef, undef, undef, undef, undef, undef, undef, undef, undef, undef, undef, undef, undef, undef, undef, undef, undef, undef, undef, undef, undef, undef, undef, undef, undef, undef, undef, undef, undef, undef] Tryd.func14 rfl (by kernel_rfl) ?_
  refine wp_seq ?_
  refine wp_region_lit ?_
  refine ql (.pointer none) (by kernel_rfl) (by kernel_rfl) ?_
  refine wpList_nil ?_
  refine x_then ?_
  refine wp_seq ?_
  refine wp_seq ?_
  refine wp_region_lit ?_
  refine ql (.pointer (some ⟨gs, 0, none⟩)) (by kernel_rfl) (by kernel_rfl) ?_
  refine ql (.bool false) (by kernel_rfl) (by kernel_rfl) ?_
  refine wpList_nil ?_
  refine x_then ?_
  refine wp_cond_false (by kernel_rfl) ?_
  refine wp_skip ?_
  refine x_then ?_
  refine wp_seq ?_
  refine wp_seq ?_
  refine wp_region_lit ?_
  refine ql (.pointer (some ⟨gs, 0, none⟩)) (by kernel_rfl) (by kernel_rfl) ?_
  refine ql (.pointer (some ⟨gs, 0, none⟩)) (by kernel_rfl) (by kernel_rfl) ?_
  refine ql (.pointer (some ⟨gs, 0, none⟩)) (by kernel_rfl) (by kernel_rfl) ?_
  refine ql (.pointer (some ⟨gp, 0, none⟩)) (by kernel_rfl) (R_load (p := ⟨gs, 0, none⟩) (by kernel_rfl) (by kernel_rfl) (by kernel_rfl) (HS.cell (i := 0) (j := 0) rfl rfl)) ?_
  refine qc (f := 39) (args := #[.pointer (some ⟨gp, 0, none⟩)]) (by kernel_rfl) (R_call #[.pointer (some ⟨gp, 0, none⟩)] Tryd.func39 (by kernel_rfl) (by kernel_rfl) (by kernel_rfl)) ?_
  replace HS : St W M W [blk gp [.chan (some c)] 95, chn c cap ((wptr ([] : List Ws)).map fun n : Nat => Value.pointer (some ⟨n, 0, none⟩)), blk gs [.pointer (some ⟨gp, 0, none⟩), .int .i64 size, .int .i64 made] 67, many (rsE 77 74 size (wRw ([] : List Ws)))] := HS.perm (perm_ [1, 2, 0, 3] (by kernel_rfl) rfl)
  refine (pgetP_none gp c 95 cap _ _ (St.focus (F := [blk gp [.chan (some c)] 95, chn c cap ((wptr ([] : List Ws)).map fun n : Nat => Value.pointer (some ⟨n, 0, none⟩))]) HS)).mono ?_
  rintro e W1 ⟨rfl, H_⟩
  refine ⟨_, rfl, ?_⟩
  replace HS : St W M W1 [blk gp [.chan (some c)] 95, chn c cap ([]), blk gs [.pointer (some ⟨gp, 0, none⟩), .int .i64 size, .int .i64 made] 67, many (rsE 77 74 size (wRw ([] : List Ws)))] := HS.join (F := [blk gp [.chan (some c)] 95, chn c cap ((wptr ([] : List Ws)).map fun n : Nat => Value.pointer (some ⟨n, 0, none⟩))]) (G := [blk gp [.chan (some c)] 95, chn c cap ([])]) H_
  clear H_
  refine ql (.tuple #[.pointer none, .bool false]) (by kernel_rfl) (by kernel_rfl) ?_
  refine ql (.pointer none) (by kernel_rfl) (by kernel_rfl) ?_
  refine ql (.bool false) (by kernel_rfl) (by kernel_rfl) ?_
  refine ql (.pointer none) (by kernel_rfl) (by kernel_rfl) ?_
  refine ql (.bool false) (by kernel_rfl) (by kernel_rfl) ?_
  refine wpList_nil ?_
  refine x_then ?_
  refine wp_seq ?_
  refine wp_region_lit ?_
  refine ql (.bool false) (by kernel_rfl) (by kernel_rfl) ?_
  refine wpList_nil ?_
  refine x_then ?_
  refine wp_cond_false (by kernel_rfl) ?_
  refine wp_skip ?_
  refine x_then ?_
  refine wp_seq ?_
  refine wp_region_lit ?_
  refine ql (.pointer (some ⟨gs, 0, none⟩)) (by kernel_rfl) (by kernel_rfl) ?_
  refine ql (.pointer (some ⟨gs, 0, none⟩)) (by kernel_rfl) (by kernel_rfl) ?_
  refine ql (.pointer (some ⟨gs, 2, none⟩)) (by kernel_rfl) (by kernel_rfl) ?_
  refine ql (.int .i64 made) (by kernel_rfl) (R_load (p := ⟨gs, 2, none⟩) (by kernel_rfl) (by kernel_rfl) (by kernel_rfl) (HS.cell (i := 2) (j := 2) rfl rfl)) ?_
  refine ql (.int .i64 (made + 1)) (by kernel_rfl) (R_int (by kernel_rfl) (w64 (by omega))) ?_
  refine ql (.pointer (some ⟨gs, 0, none⟩)) (by kernel_rfl) (by kernel_rfl) ?_
  refine ql (.pointer (some ⟨gs, 2, none⟩)) (by kernel_rfl) (by kernel_rfl) ?_
  refine ks (v := .int .i64 (made + 1)) HS 2 rfl (2) [.int .i64 (made + 1)] (by kernel_rfl) (by kernel_rfl) (by kernel_rfl) (by kernel_rfl) (by kernel_rfl) (one_ (by kernel_rfl)) (Nat.le_of_ble_eq_true rfl) rfl ?_
  intro W2 H_
  replace HS : St W M W2 [blk gp [.chan (some c)] 95, chn c cap ([]), blk gs [.pointer (some ⟨gp, 0, none⟩), .int .i64 size, .int .i64 (made + 1)] 67, many (rsE 77 74 size (wRw ([] : List Ws)))] := H_
  clear H_
  refine wpList_nil ?_
  refine x_then ?_
  refine wp_seq ?_
  refine wp_region_lit ?_
  refine ql (.pointer (some ⟨gs, 0, none⟩)) (by kernel_rfl) (by kernel_rfl) ?_
  refine ql (.pointer (some ⟨gs, 0, none⟩)) (by kernel_rfl) (by kernel_rfl) ?_
  refine ql (.pointer (some ⟨gs, 1, none⟩)) (by kernel_rfl) (by kernel_rfl) ?_
  refine ql (.int .i64 size) (by kernel_rfl) (R_load (p := ⟨gs, 1, none⟩) (by kernel_rfl) (by kernel_rfl) (by kernel_rfl) (HS.cell (i := 2) (j := 1) rfl rfl)) ?_
  refine qc (f := 40) (args := #[.int .i64 size]) (by kernel_rfl) (R_call #[.int .i64 size] Tryd.func40 (by kernel_rfl) (by kernel_rfl) (by kernel_rfl)) ?_
  refine (dnew_ok size _ h0 h1).mono ?_
  rintro e W3 ⟨g9, a9, c9, ws9, rfl, H_, hR9⟩
  refine ⟨_, rfl, ?_⟩
  replace HS : St W M W3 [blk g9 [.slice (some ⟨a9, 0, none⟩) ws9.length c9, .int .i64 size] 77, row (some ⟨a9, 0, none⟩) ws9.length c9 (ci .u64 ws9) 74 1, blk gp [.chan (some c)] 95, chn c cap ([]), blk gs [.pointer (some ⟨gp, 0, none⟩), .int .i64 size, .int .i64 (made + 1)] 67, many (rsE 77 74 size (wRw ([] : List Ws)))] := HS.join (F := []) (G := [blk g9 [.slice (some ⟨a9, 0, none⟩) ws9.length c9, .int .i64 size] 77, row (some ⟨a9, 0, none⟩) ws9.length c9 (ci .u64 ws9) 74 1]) H_
  clear H_
  refine ql (.tuple #[.pointer (some ⟨g9, 0, none⟩), .int .i64 0]) (by kernel_rfl) (by kernel_rfl) ?_
  refine ql (.pointer (some ⟨g9, 0, none⟩)) (by kernel_rfl) (by kernel_rfl) ?_
  refine ql (.int .i64 0) (by kernel_rfl) (by kernel_rfl) ?_
  refine ql (.pointer (some ⟨g9, 0, none⟩)) (by kernel_rfl) (by kernel_rfl) ?_
  refine ql (.int .i64 0) (by kernel_rfl) (by kernel_rfl) ?_
  refine wpList_nil ?_
  refine x_then ?_
  refine wp_seq ?_
  refine wp_region_lit ?_
  refine ql (.pointer (some ⟨g9, 0, none⟩)) (by kernel_rfl) (by kernel_rfl) ?_
  refine ql (.pointer (some ⟨g9, 0, none⟩)) (by kernel_rfl) (by kernel_rfl) ?_
  refine wpList_nil ?_
  refine x_then ?_
  refine wp_ret ?_
  refine ret_ (.pointer (some ⟨g9, 0, none⟩)) (by kernel_rfl) ?_
  replace HS : St W M W3 [blk g9 [.slice (some ⟨a9, 0, none⟩) ws9.length c9, .int .i64 size] 77, row (some ⟨a9, 0, none⟩) ws9.length c9 (ci .u64 ws9) 74 1, blk gs [.pointer (some ⟨gp, 0, none⟩), .int .i64 size, .int .i64 (made + 1)] 67, blk gp [.chan (some c)] 95, chn c cap ([]), many (rsE 77 74 size (wRw ([] : List Ws)))] := HS.perm (perm_ [0, 1, 4, 2, 3, 5] (by kernel_rfl) rfl)
  exact ⟨g9, a9, c9, ws9, rfl, HS, hR9⟩

set_option maxRecDepth 100000 in
set_option maxHeartbeats 1000000 in
theorem stake_wait (gs gp c cap : Nat) (size made : Int) (g1 c1 : Nat) (A1 : Option Addr) (ws1 : List Int) (wl : List Ws) (W : World) (M : Nat → Prop) (HS : St W M W [blk gs [.pointer (some ⟨gp, 0, none⟩), .int .i64 size, .int .i64 made] 67, blk gp [.chan (some c)] 95, chn c cap ((wptr ((g1, A1, c1, ws1) :: wl)).map fun n : Nat => Value.pointer (some ⟨n, 0, none⟩)), many (rsE 77 74 size (wRw ((g1, A1, c1, ws1) :: wl)))]) : Calls Tryd.prog 14 #[.pointer (some ⟨gs, 0, none⟩)] W fun e W' => e = .returned (.pointer (some ⟨g1, 0, none⟩)) ∧ St W M W' [blk g1 [.slice A1 ws1.length c1, .int .i64 size] 77, row A1 ws1.length c1 (ci .u64 ws1) 74 1, blk gs [.pointer (some ⟨gp, 0, none⟩), .int .i64 size, .int .i64 made] 67, blk gp [.chan (some c)] 95, chn c cap ((wptr wl).map fun n : Nat => Value.pointer (some ⟨n, 0, none⟩)), many (rsE 77 74 size (wRw wl))] := by
  refine calls_enter [.pointer (some ⟨gs, 0, none⟩), undef, undef, undef, undef, undef, undef, undef, undef, undef, undef, undef, undef, undef, undef, undef, undef, undef, undef, undef, undef, undef, undef, undef, undef, undef, undef, undef, undef, undef, undef, undef, undef, undef, undef] Tryd.func14 rfl (by kernel_rfl) ?_
  refine wp_seq ?_
  refine wp_region_lit ?_
  refine ql (.pointer none) (by kernel_rfl) (by kernel_rfl) ?_
  refine wpList_nil ?_
  refine x_then ?_
  refine wp_seq ?_
  refine wp_seq ?_
  refine wp_region_lit ?_
  refine ql (.pointer (some ⟨gs, 0, none⟩)) (by kernel_rfl) (by kernel_rfl) ?_
  refine ql (.bool false) (by kernel_rfl) (by kernel_rfl) ?_
  refine wpList_nil ?_
  refine x_then ?_
  refine wp_cond_false (by kernel_rfl) ?_
  refine wp_skip ?_
  refine x_then ?_
  refine wp_seq ?_
  refine wp_seq ?_
  refine wp_region_lit ?_
  refine ql (.pointer (some ⟨gs, 0, none⟩)) (by kernel_rfl) (by kernel_rfl) ?_
  refine ql (.pointer (some ⟨gs, 0, none⟩)) (by kernel_rfl) (by kernel_rfl) ?_
  refine ql (.pointer (some ⟨gs, 0, none⟩)) (by kernel_rfl) (by kernel_rfl) ?_
  refine ql (.pointer (some ⟨gp, 0, none⟩)) (by kernel_rfl) (R_load (p := ⟨gs, 0, none⟩) (by kernel_rfl) (by kernel_rfl) (by kernel_rfl) (HS.cell (i := 0) (j := 0) rfl rfl)) ?_
  refine qc (f := 39) (args := #[.pointer (some ⟨gp, 0, none⟩)]) (by kernel_rfl) (R_call #[.pointer (some ⟨gp, 0, none⟩)] Tryd.func39 (by kernel_rfl) (by kernel_rfl) (by kernel_rfl)) ?_
  replace HS : St W M W [blk gp [.chan (some c)] 95, chn c cap ((wptr ((g1, A1, c1, ws1) :: wl)).map fun n : Nat => Value.pointer (some ⟨n, 0, none⟩)), blk gs [.pointer (some ⟨gp, 0, none⟩), .int .i64 size, .int .i64 made] 67, many (rsE 77 74 size (wRw ((g1, A1, c1, ws1) :: wl)))] := HS.perm (perm_ [1, 2, 0, 3] (by kernel_rfl) rfl)
  refine (pgetP_some gp c 95 cap (wptr wl) g1 _ _ (St.focus (F := [blk gp [.chan (some c)] 95, chn c cap ((wptr ((g1, A1, c1, ws1) :: wl)).map fun n : Nat => Value.pointer (some ⟨n, 0, none⟩))]) HS)).mono ?_
  rintro e W1 ⟨rfl, H_⟩
  refine ⟨_, rfl, ?_⟩
  replace HS : St W M W1 [blk gp [.chan (some c)] 95, chn c cap ((wptr wl).map fun n : Nat => Value.pointer (some ⟨n, 0, none⟩)), blk gs [.pointer (some ⟨gp, 0, none⟩), .int .i64 size, .int .i64 made] 67, many (rsE 77 74 size (wRw ((g1, A1, c1, ws1) :: wl)))] := HS.join (F := [blk gp [.chan (some c)] 95, chn c cap ((wptr ((g1, A1, c1, ws1) :: wl)).map fun n : Nat => Value.pointer (some ⟨n, 0, none⟩))]) (G := [blk gp [.chan (some c)] 95, chn c cap ((wptr wl).map fun n : Nat => Value.pointer (some ⟨n, 0, none⟩))]) H_
  clear H_
  refine ql (.tuple #[.pointer (some ⟨g1, 0, none⟩), .bool true]) (by kernel_rfl) (by kernel_rfl) ?_
  refine ql (.pointer (some ⟨g1, 0, none⟩)) (by kernel_rfl) (by kernel_rfl) ?_
  refine ql (.bool true) (by kernel_rfl) (by kernel_rfl) ?_
  refine ql (.pointer (some ⟨g1, 0, none⟩)) (by kernel_rfl) (by kernel_rfl) ?_
  refine ql (.bool true) (by kernel_rfl) (by kernel_rfl) ?_
  refine wpList_nil ?_
  refine x_then ?_
  refine wp_seq ?_
  refine wp_region_lit ?_
  refine ql (.bool true) (by kernel_rfl) (by kernel_rfl) ?_
  refine wpList_nil ?_
  refine x_then ?_
  refine wp_cond_true (by kernel_rfl) ?_
  refine wp_seq ?_
  refine wp_region_lit ?_
  refine ql (.pointer (some ⟨g1, 0, none⟩)) (by kernel_rfl) (by kernel_rfl) ?_
  refine ql (.pointer (some ⟨g1, 0, none⟩)) (by kernel_rfl) (by kernel_rfl) ?_
  refine wpList_nil ?_
  refine x_then ?_
  refine wp_ret ?_
  refine x_thenR ?_
  refine ret_ (.pointer (some ⟨g1, 0, none⟩)) (by kernel_rfl) ?_
  replace HS : St W M W1 [many (rsE 77 74 size (wRw ((g1, A1, c1, ws1) :: wl))), blk gp [.chan (some c)] 95, chn c cap ((wptr wl).map fun n : Nat => Value.pointer (some ⟨n, 0, none⟩)), blk gs [.pointer (some ⟨gp, 0, none⟩), .int .i64 size, .int .i64 made] 67] := HS.perm (perm_ [3, 0, 1, 2] (by kernel_rfl) rfl)
  replace HS : St W M W1 [blk g1 [.slice A1 ws1.length c1, .int .i64 size] 77, row A1 ws1.length c1 (ci .u64 ws1) 74 1, many (rsE 77 74 size (wRw wl)), blk gp [.chan (some c)] 95, chn c cap ((wptr wl).map fun n : Nat => Value.pointer (some ⟨n, 0, none⟩)), blk gs [.pointer (some ⟨gp, 0, none⟩), .int .i64 size, .int .i64 made] 67] := HS.takeW
  replace HS : St W M W1 [blk g1 [.slice A1 ws1.length c1, .int .i64 size] 77, row A1 ws1.length c1 (ci .u64 ws1) 74 1, blk gs [.pointer (some ⟨gp, 0, none⟩), .int .i64 size, .int .i64 made] 67, blk gp [.chan (some c)] 95, chn c cap ((wptr wl).map fun n : Nat => Value.pointer (some ⟨n, 0, none⟩)), many (rsE 77 74 size (wRw wl))] := HS.perm (perm_ [0, 1, 5, 3, 4, 2] (by kernel_rfl) rfl)
  exact ⟨rfl, HS⟩

set_option maxRecDepth 100000 in
set_option maxHeartbeats 1000000 in
theorem smade (gs : Nat) (made : Int) (W : World) (hcell : W.cell? ⟨gs, 2, none⟩ = some (.int .i64 made)) : Calls Tryd.prog 16 #[.pointer (some ⟨gs, 0, none⟩)] W fun e W' => e = .returned (.int .i64 made) ∧ St W (owns []) W' [] := by
  have HS : St W (owns []) W [] := St.start W _
  refine calls_enter [.pointer (some ⟨gs, 0, none⟩), undef, undef, undef, undef, undef, undef, undef, undef] Tryd.func16 rfl (by kernel_rfl) ?_
  refine wp_seq ?_
  refine wp_region_lit ?_
  refine ql (.int .i64 0) (by kernel_rfl) (by kernel_rfl) ?_
  refine wpList_nil ?_
  refine x_then ?_
  refine wp_seq ?_
  refine wp_seq ?_
  refine wp_region_lit ?_
  refine ql (.pointer (some ⟨gs, 0, none⟩)) (by kernel_rfl) (by kernel_rfl) ?_
  refine ql (.bool false) (by kernel_rfl) (by kernel_rfl) ?_
  refine wpList_nil ?_
  refine x_then ?_
  refine wp_cond_false (by kernel_rfl) ?_
  refine wp_skip ?_
  refine x_then ?_
  refine wp_seq ?_
  refine wp_region_lit ?_
  refine ql (.pointer (some ⟨gs, 0, none⟩)) (by kernel_rfl) (by kernel_rfl) ?_
  refine ql (.pointer (some ⟨gs, 0, none⟩)) (by kernel_rfl) (by kernel_rfl) ?_
  refine ql (.pointer (some ⟨gs, 2, none⟩)) (by kernel_rfl) (by kernel_rfl) ?_
  refine ql (.int .i64 made) (by kernel_rfl) (R_load (p := ⟨gs, 2, none⟩) (by kernel_rfl) (by kernel_rfl) (by kernel_rfl) (HS.old0 hcell)) ?_
  refine ql (.int .i64 made) (by kernel_rfl) (by kernel_rfl) ?_
  refine wpList_nil ?_
  refine x_then ?_
  refine wp_ret ?_
  refine ret_ (.int .i64 made) (by kernel_rfl) ?_
  exact ⟨rfl, HS⟩


set_option maxRecDepth 100000 in
set_option maxHeartbeats 1000000 in
theorem sgive_room (gs gp c cap : Nat) (size made : Int) (gv cv : Nat) (A : Option Addr) (ws L : List Int) (wl : List Ws) (W : World) (M : Nat → Prop) (HS : St W M W [blk gv [.slice A ws.length cv, .int .i64 size] 77, row A ws.length cv (ci .u64 ws) 74 1, blk gs [.pointer (some ⟨gp, 0, none⟩), .int .i64 size, .int .i64 made] 67, blk gp [.chan (some c)] 95, chn c cap ((wptr wl).map fun n : Nat => Value.pointer (some ⟨n, 0, none⟩)), many (rsE 77 74 size (wRw wl))]) (hM0 : ¬ M 0) (hT : TabAt64 W) (hR : Rep ws size L) (hn : size ≤ 1048576) (hroom : wl.length < cap) : Calls Tryd.prog 15 #[.pointer (some ⟨gs, 0, none⟩), .pointer (some ⟨gv, 0, none⟩)] W fun e W' => ∃ ws', e = .returned (.bool true) ∧ St W M W' [blk gs [.pointer (some ⟨gp, 0, none⟩), .int .i64 size, .int .i64 made] 67, blk gp [.chan (some c)] 95, chn c cap ((wptr (wl ++ [(gv, A, cv, ws')])).map fun n : Nat => Value.pointer (some ⟨n, 0, none⟩)), many (rsE 77 74 size (wRw (wl ++ [(gv, A, cv, ws')])))] ∧ Rep ws' size [] := by
  refine calls_enter [.pointer (some ⟨gs, 0, none⟩), .pointer (some ⟨gv, 0, none⟩), undef, undef, undef, undef, undef, undef, undef, undef, undef, undef, undef, undef, undef, undef, undef, undef, undef, undef, undef, undef, undef, undef, undef, undef, undef, undef, undef, undef, undef, undef, undef, undef, undef, undef, undef, undef] Tryd.func15 rfl (by kernel_rfl) ?_
  refine wp_seq ?_
  refine wp_region_lit ?_
  refine ql (.bool false) (by kernel_rfl) (by kernel_rfl) ?_
  refine wpList_nil ?_
  refine x_then ?_
  refine wp_seq ?_
  refine wp_seq ?_
  refine t_start HS (fun _ => False) 15 (by kernel_rfl) rfl ?_
  intro W1 H_ HD_
  clear HD_
  replace HS : St W M W1 [blk gv [.slice A ws.length cv, .int .i64 size] 77, row A ws.length cv (ci .u64 ws) 74 1, blk gs [.pointer (some ⟨gp, 0, none⟩), .int .i64 size, .int .i64 made] 67, blk gp [.chan (some c)] 95, chn c cap ((wptr wl).map fun n : Nat => Value.pointer (some ⟨n, 0, none⟩)), many (rsE 77 74 size (wRw wl))] := H_
  clear H_
  have HV := HS
  have HK := Kpt.refl (fun _ => False) W1
  refine t_q (n := 14) 0 (.pointer (some ⟨gs, 0, none⟩)) rfl (by kernel_rfl) (by kernel_rfl) (fun _ _ _ h => h) (fun w' hk => (by kernel_rfl)) HK ?_
  refine t_q (n := 13) 1 (.bool false) rfl (by kernel_rfl) (by kernel_rfl) (fun _ _ _ h => h) (fun w' hk => (by kernel_rfl)) HK ?_
  refine t_q (n := 12) 2 (.bool false) rfl (by kernel_rfl) (by kernel_rfl) (fun _ _ _ h => h) (fun w' hk => (by kernel_rfl)) HK ?_
  refine t_q (n := 11) 3 (.pointer (some ⟨gv, 0, none⟩)) rfl (by kernel_rfl) (by kernel_rfl) (fun _ _ _ h => h) (fun w' hk => (by kernel_rfl)) HK ?_
  refine t_q (n := 10) 4 (.bool false) rfl (by kernel_rfl) (by kernel_rfl) (fun _ _ _ h => h) (fun w' hk => (by kernel_rfl)) HK ?_
  refine t_q (n := 9) 5 (.bool false) rfl (by kernel_rfl) (by kernel_rfl) (fun _ _ _ h => h) (fun w' hk => (by kernel_rfl)) HK ?_
  refine t_q (n := 8) 6 (.bool false) rfl (by kernel_rfl) (by kernel_rfl) (fun _ _ _ h => h) (fun w' hk => (by kernel_rfl)) HK ?_
  refine t_q (n := 7) 7 (.pointer (some ⟨gv, 0, none⟩)) rfl (by kernel_rfl) (by kernel_rfl) (fun _ _ _ h => h) (fun w' hk => (by kernel_rfl)) HK ?_
  refine t_q (n := 6) 9 (.pointer (some ⟨gs, 0, none⟩)) rfl (by kernel_rfl) (by kernel_rfl) (fun _ _ _ h => h) (fun w' hk => (by kernel_rfl)) HK ?_
  refine t_q (n := 5) 10 (.pointer (some ⟨gs, 0, none⟩)) rfl (by kernel_rfl) (by kernel_rfl) (fun _ _ _ h => h) (fun w' hk => (by kernel_rfl)) HK ?_
  refine t_q (n := 4) 11 (.pointer (some ⟨gs, 1, none⟩)) rfl (by kernel_rfl) (by kernel_rfl) (fun _ _ _ h => h) (fun w' hk => (by kernel_rfl)) HK ?_
  refine t_q (n := 3) 12 (.int .i64 size) rfl (by kernel_rfl) (by kernel_rfl) (fun _ _ _ h => h) (fun w' hk => (R_load (p := ⟨gs, 1, none⟩) (by kernel_rfl) (by kernel_rfl) (by kernel_rfl) (hk.cell (HV.cell (i := 2) (j := 1) rfl rfl)))) HK ?_
  refine t_c (n := 2) 8 (f := 21) (args := #[.pointer (some ⟨gv, 0, none⟩)]) rfl (by kernel_rfl) (by kernel_rfl) (R_call #[.pointer (some ⟨gv, 0, none⟩)] Tryd.func21 (by kernel_rfl) (by kernel_rfl) (by kernel_rfl)) ?_
  refine (dsize _ _ _ (HS.cell (i := 0) (j := 1) rfl rfl)).mono ?_
  rintro e W2 ⟨rfl, H_⟩
  refine ⟨_, rfl, HK.tr H_.kept.nil, ?_⟩
  replace HK := HK.tr H_.kept.nil
  replace HS : St W M W2 [blk gv [.slice A ws.length cv, .int .i64 size] 77, row A ws.length cv (ci .u64 ws) 74 1, blk gs [.pointer (some ⟨gp, 0, none⟩), .int .i64 size, .int .i64 made] 67, blk gp [.chan (some c)] 95, chn c cap ((wptr wl).map fun n : Nat => Value.pointer (some ⟨n, 0, none⟩)), many (rsE 77 74 size (wRw wl))] := HS.join (F := []) (G := []) H_
  clear H_
  refine t_q (n := 1) 13 (.bool false) rfl (by kernel_rfl) (by kernel_rfl) (fun _ _ _ h => h) (fun w' hk => (R_beq (b := (size != size)) (by kernel_rfl) (bne_f (by omega)))) HK ?_
  refine t_q (n := 0) 14 (.bool false) rfl (by kernel_rfl) (by kernel_rfl) (fun _ _ _ h => h) (fun w' hk => (by kernel_rfl)) HK ?_
  refine t_done (by kernel_rfl) ?_
  clear HV HK
  refine x_then ?_
  refine wp_cond_false (by kernel_rfl) ?_
  refine wp_skip ?_
  refine x_then ?_
  refine wp_seq ?_
  refine wp_seq ?_
  refine wp_region_lit ?_
  refine ql (.pointer (some ⟨gv, 0, none⟩)) (by kernel_rfl) (by kernel_rfl) ?_
  refine qc (f := 41) (args := #[.pointer (some ⟨gv, 0, none⟩), .int .i64 0]) (by kernel_rfl) (R_call #[.pointer (some ⟨gv, 0, none⟩), .int .i64 0] Tryd.func41 (by kernel_rfl) (by kernel_rfl) (by kernel_rfl)) ?_
  have hng := nxt_rng hR 0
  rw [nxt_first (fun x hx => (hR.lim x hx).1)] at hng
  have hT' := hT.old HS hT.pos hM0
  refine (dnext gv cv A ws size L 0 _ (HS.cell (i := 0) (j := 0) rfl rfl) (HS.cell (i := 0) (j := 1) rfl rfl) (Rd.row HS (i := 1) rfl) hR hn hT').mono ?_
  rintro e W3 ⟨rfl, H_⟩
  rw [nxt_first (fun x hx => (hR.lim x hx).1)]
  refine ⟨_, rfl, ?_⟩
  replace HS : St W M W3 [blk gv [.slice A ws.length cv, .int .i64 size] 77, row A ws.length cv (ci .u64 ws) 74 1, blk gs [.pointer (some ⟨gp, 0, none⟩), .int .i64 size, .int .i64 made] 67, blk gp [.chan (some c)] 95, chn c cap ((wptr wl).map fun n : Nat => Value.pointer (some ⟨n, 0, none⟩)), many (rsE 77 74 size (wRw wl))] := HS.join (F := []) (G := []) H_
  clear H_
  refine ql (.int .i64 (L.head?.getD (-1))) (by kernel_rfl) (by kernel_rfl) ?_
  refine wpList_nil ?_
  refine x_then ?_
  refine wp_block ?_
  refine wp_loop_ghost (fun kq a' w' => ∃ (J1 : Nat → Value) (i : Int) (Lk wk : List Int), a' = Fr [.pointer (some ⟨gs, 0, none⟩), .pointer (some ⟨gv, 0, none⟩), undef, undef, .bool false, .int .i64 i, .pointer (some ⟨gs, 0, none⟩), .bool false, .bool false, .pointer (some ⟨gv, 0, none⟩), .bool false, .bool false, .bool false, .pointer (some ⟨gv, 0, none⟩), .int .i64 size, .pointer (some ⟨gs, 0, none⟩), .pointer (some ⟨gs, 0, none⟩), .pointer (some ⟨gs, 1, none⟩), .int .i64 size, .bool false, .bool false, .pointer (some ⟨gv, 0, none⟩), .int .i64 (L.head?.getD (-1)), (J1 23), (J1 24), (J1 25), (J1 26), (J1 27), (J1 28), (J1 29), (J1 30), (J1 31), undef, undef, undef, undef, undef, undef] ∧ kq = Lk.length ∧ i = Lk.head?.getD (-1) ∧ Rep wk size Lk ∧ St W M w' [blk gv [.slice A wk.length cv, .int .i64 size] 77, row A wk.length cv (ci .u64 wk) 74 1, blk gs [.pointer (some ⟨gp, 0, none⟩), .int .i64 size, .int .i64 made] 67, blk gp [.chan (some c)] 95, chn c cap ((wptr wl).map fun n : Nat => Value.pointer (some ⟨n, 0, none⟩)), many (rsE 77 74 size (wRw wl))]) L.length ⟨(fun k_ : Nat => List.getD [.pointer (some ⟨gs, 0, none⟩), .pointer (some ⟨gv, 0, none⟩), undef, undef, .bool false, .int .i64 (L.head?.getD (-1)), .pointer (some ⟨gs, 0, none⟩), .bool false, .bool false, .pointer (some ⟨gv, 0, none⟩), .bool false, .bool false, .bool false, .pointer (some ⟨gv, 0, none⟩), .int .i64 size, .pointer (some ⟨gs, 0, none⟩), .pointer (some ⟨gs, 0, none⟩), .pointer (some ⟨gs, 1, none⟩), .int .i64 size, .bool false, .bool false, .pointer (some ⟨gv, 0, none⟩), .int .i64 (L.head?.getD (-1)), undef, undef, undef, undef, undef, undef, undef, undef, undef, undef, undef, undef, undef, undef, undef] k_ undef), _, L, ws, congrArg Fr (by kernel_rfl), rfl, rfl, hR, HS⟩ ?_
  clear HS
  intro kq a' WB hrel
  obtain ⟨J1, i, Lk, wk, rfl, hk, hi, hRk, HS⟩ := hrel
  rcases Lk with _ | ⟨x, t⟩
  · skip
    have hi : i = -1 := hi
    refine wp_seq ?_
    refine wp_seq ?_
    refine wp_region_lit ?_
    refine ql (.int .i64 i) (by kernel_rfl) (by kernel_rfl) ?_
    refine ql (.bool false) (by kernel_rfl) (R_nbool (p := i ≥ (0 : Int)) (by kernel_rfl) (by omega)) ?_
    refine wpList_nil ?_
    refine x_then ?_
    refine wp_cond_false (by kernel_rfl) ?_
    refine wp_exit ?_
    refine x_thenE ?_
    refine x_thenE ?_
    refine x_hit ?_
    refine x_then ?_
    refine wp_seq ?_
    refine wp_region_lit ?_
    refine ql (.pointer (some ⟨gs, 0, none⟩)) (by kernel_rfl) (by kernel_rfl) ?_
    refine ql (.pointer (some ⟨gs, 0, none⟩)) (by kernel_rfl) (by kernel_rfl) ?_
    refine ql (.pointer (some ⟨gs, 0, none⟩)) (by kernel_rfl) (by kernel_rfl) ?_
    refine ql (.pointer (some ⟨gp, 0, none⟩)) (by kernel_rfl) (R_load (p := ⟨gs, 0, none⟩) (by kernel_rfl) (by kernel_rfl) (by kernel_rfl) (HS.cell (i := 2) (j := 0) rfl rfl)) ?_
    refine ql (.pointer (some ⟨gv, 0, none⟩)) (by kernel_rfl) (by kernel_rfl) ?_
    refine qc (f := 43) (args := #[.pointer (some ⟨gp, 0, none⟩), .pointer (some ⟨gv, 0, none⟩)]) (by kernel_rfl) (R_call #[.pointer (some ⟨gp, 0, none⟩), .pointer (some ⟨gv, 0, none⟩)] Tryd.func43 (by kernel_rfl) (by kernel_rfl) (by kernel_rfl)) ?_
    replace HS : St W M WB [blk gp [.chan (some c)] 95, chn c cap ((wptr wl).map fun n : Nat => Value.pointer (some ⟨n, 0, none⟩)), blk gs [.pointer (some ⟨gp, 0, none⟩), .int .i64 size, .int .i64 made] 67, many (rsE 77 74 size (wRw wl)), blk gv [.slice A wk.length cv, .int .i64 size] 77, row A wk.length cv (ci .u64 wk) 74 1] := HS.perm (perm_ [3, 4, 2, 5, 0, 1] (by kernel_rfl) rfl)
    refine (pputP_room gp c 95 cap (wptr wl) gv _ _ (St.focus (F := [blk gp [.chan (some c)] 95, chn c cap ((wptr wl).map fun n : Nat => Value.pointer (some ⟨n, 0, none⟩))]) HS) (by rw [wptr_len]; exact hroom)).mono ?_
    rintro e W4 ⟨rfl, H_⟩
    refine ⟨_, rfl, ?_⟩
    replace HS : St W M W4 [blk gp [.chan (some c)] 95, chn c cap ((wptr wl ++ [gv]).map fun n : Nat => Value.pointer (some ⟨n, 0, none⟩)), blk gs [.pointer (some ⟨gp, 0, none⟩), .int .i64 size, .int .i64 made] 67, many (rsE 77 74 size (wRw wl)), blk gv [.slice A wk.length cv, .int .i64 size] 77, row A wk.length cv (ci .u64 wk) 74 1] := HS.join (F := [blk gp [.chan (some c)] 95, chn c cap ((wptr wl).map fun n : Nat => Value.pointer (some ⟨n, 0, none⟩))]) (G := [blk gp [.chan (some c)] 95, chn c cap ((wptr wl ++ [gv]).map fun n : Nat => Value.pointer (some ⟨n, 0, none⟩))]) H_
    clear H_
    refine ql (.bool true) (by kernel_rfl) (by kernel_rfl) ?_
    refine wpList_nil ?_
    refine x_then ?_
    refine wp_ret ?_
    refine ret_ (.bool true) (by kernel_rfl) ?_
    replace HS : St W M W4 [blk gv [.slice A wk.length cv, .int .i64 size] 77, row A wk.length cv (ci .u64 wk) 74 1, many (rsE 77 74 size (wRw wl)), blk gs [.pointer (some ⟨gp, 0, none⟩), .int .i64 size, .int .i64 made] 67, blk gp [.chan (some c)] 95, chn c cap ((wptr wl ++ [gv]).map fun n : Nat => Value.pointer (some ⟨n, 0, none⟩))] := HS.perm (perm_ [4, 5, 3, 2, 0, 1] (by kernel_rfl) rfl)
    replace HS : St W M W4 [many (rsE 77 74 size (wRw (wl ++ [(gv, A, cv, wk)]))), blk gs [.pointer (some ⟨gp, 0, none⟩), .int .i64 size, .int .i64 made] 67, blk gp [.chan (some c)] 95, chn c cap ((wptr wl ++ [gv]).map fun n : Nat => Value.pointer (some ⟨n, 0, none⟩))] := St.giveW (y := (gv, A, cv, wk)) HS
    replace HS : St W M W4 [blk gs [.pointer (some ⟨gp, 0, none⟩), .int .i64 size, .int .i64 made] 67, blk gp [.chan (some c)] 95, chn c cap ((wptr wl ++ [gv]).map fun n : Nat => Value.pointer (some ⟨n, 0, none⟩)), many (rsE 77 74 size (wRw (wl ++ [(gv, A, cv, wk)])))] := HS.perm (perm_ [1, 2, 3, 0] (by kernel_rfl) rfl)
    rw [← wptr_snoc wl (gv, A, cv, wk)] at HS
    exact ⟨wk, rfl, HS, hRk⟩
  · skip
    have hi : i = x := hi
    subst hi
    have hlx := hRk.lim i (by simp)
    refine wp_seq ?_
    refine wp_seq ?_
    refine wp_region_lit ?_
    refine ql (.int .i64 i) (by kernel_rfl) (by kernel_rfl) ?_
    refine ql (.bool true) (by kernel_rfl) (R_bool (p := i ≥ (0 : Int)) (by kernel_rfl) (by omega)) ?_
    refine wpList_nil ?_
    refine x_then ?_
    refine wp_cond_true (by kernel_rfl) ?_
    refine wp_skip ?_
    refine x_then ?_
    refine wp_seq ?_
    refine wp_block ?_
    refine wp_region_lit ?_
    refine ql (.pointer (some ⟨gv, 0, none⟩)) (by kernel_rfl) (by kernel_rfl) ?_
    refine ql (.int .i64 i) (by kernel_rfl) (by kernel_rfl) ?_
    refine qc (f := 42) (args := #[.pointer (some ⟨gv, 0, none⟩), .int .i64 i]) (by kernel_rfl) (R_call #[.pointer (some ⟨gv, 0, none⟩), .int .i64 i] Tryd.func42 (by kernel_rfl) (by kernel_rfl) (by kernel_rfl)) ?_
    refine (ddel_old gv cv A wk size (i :: t) i _ _ (St.focus (F := [blk gv [.slice A wk.length cv, .int .i64 size] 77, row A wk.length cv (ci .u64 wk) 74 1]) HS) hRk hn (by simp)).mono ?_
    rintro e W5 ⟨wk2, rfl, H_, hRd⟩
    have hdh := del_head hRk.srt
    rw [hdh.1] at hRd
    refine ⟨_, rfl, ?_⟩
    replace HS : St W M W5 [blk gv [.slice A wk2.length cv, .int .i64 size] 77, row A wk2.length cv (ci .u64 wk2) 74 1, blk gs [.pointer (some ⟨gp, 0, none⟩), .int .i64 size, .int .i64 made] 67, blk gp [.chan (some c)] 95, chn c cap ((wptr wl).map fun n : Nat => Value.pointer (some ⟨n, 0, none⟩)), many (rsE 77 74 size (wRw wl))] := HS.join (F := [blk gv [.slice A wk.length cv, .int .i64 size] 77, row A wk.length cv (ci .u64 wk) 74 1]) (G := [blk gv [.slice A wk2.length cv, .int .i64 size] 77, row A wk2.length cv (ci .u64 wk2) 74 1]) H_
    clear H_
    refine wpList_nil ?_
    refine x_inb ?_
    refine x_then ?_
    refine wp_region_lit ?_
    refine ql (.pointer (some ⟨gv, 0, none⟩)) (by kernel_rfl) (by kernel_rfl) ?_
    refine ql (.int .i64 i) (by kernel_rfl) (by kernel_rfl) ?_
    refine ql (.int .i64 (i + 1)) (by kernel_rfl) (R_int (by kernel_rfl) (w64 (by omega))) ?_
    refine qc (f := 41) (args := #[.pointer (some ⟨gv, 0, none⟩), .int .i64 (i + 1)]) (by kernel_rfl) (R_call #[.pointer (some ⟨gv, 0, none⟩), .int .i64 (i + 1)] Tryd.func41 (by kernel_rfl) (by kernel_rfl) (by kernel_rfl)) ?_
    have hng := nxt_rng hRd (i + 1)
    rw [hdh.2] at hng
    have hT' := hT.old HS hT.pos hM0
    refine (dnext gv cv A wk2 size t (i + 1) _ (HS.cell (i := 0) (j := 0) rfl rfl) (HS.cell (i := 0) (j := 1) rfl rfl) (Rd.row HS (i := 1) rfl) hRd hn hT').mono ?_
    rintro e W6 ⟨rfl, H_⟩
    rw [hdh.2]
    refine ⟨_, rfl, ?_⟩
    replace HS : St W M W6 [blk gv [.slice A wk2.length cv, .int .i64 size] 77, row A wk2.length cv (ci .u64 wk2) 74 1, blk gs [.pointer (some ⟨gp, 0, none⟩), .int .i64 size, .int .i64 made] 67, blk gp [.chan (some c)] 95, chn c cap ((wptr wl).map fun n : Nat => Value.pointer (some ⟨n, 0, none⟩)), many (rsE 77 74 size (wRw wl))] := HS.join (F := []) (G := []) H_
    clear H_
    refine ql (.int .i64 (t.head?.getD (-1))) (by kernel_rfl) (by kernel_rfl) ?_
    refine wpList_nil ?_
    refine x_then ?_
    exact ⟨t.length, by rw [hk]; simp, (fun k_ : Nat => List.getD [.pointer (some ⟨gs, 0, none⟩), .pointer (some ⟨gv, 0, none⟩), undef, undef, .bool false, .int .i64 (t.head?.getD (-1)), .pointer (some ⟨gs, 0, none⟩), .bool false, .bool false, .pointer (some ⟨gv, 0, none⟩), .bool false, .bool false, .bool false, .pointer (some ⟨gv, 0, none⟩), .int .i64 size, .pointer (some ⟨gs, 0, none⟩), .pointer (some ⟨gs, 0, none⟩), .pointer (some ⟨gs, 1, none⟩), .int .i64 size, .bool false, .bool false, .pointer (some ⟨gv, 0, none⟩), .int .i64 (L.head?.getD (-1)), .int .i64 i, .bool true, .pointer (some ⟨gv, 0, none⟩), .int .i64 i, .int .i64 (i + 1), .int .i64 (t.head?.getD (-1)), .pointer (some ⟨gv, 0, none⟩), .int .i64 i, .bool true, undef, undef, undef, undef, undef, undef] k_ undef), _, t, wk2, congrArg Fr (by kernel_rfl), rfl, rfl, hRd, HS⟩

set_option maxRecDepth 100000 in
set_option maxHeartbeats 1000000 in
theorem sgive_full (gs gp c cap : Nat) (size made : Int) (gv cv : Nat) (A : Option Addr) (ws L : List Int) (wl : List Ws) (W : World) (M : Nat → Prop) (HS : St W M W [blk gv [.slice A ws.length cv, .int .i64 size] 77, row A ws.length cv (ci .u64 ws) 74 1, blk gs [.pointer (some ⟨gp, 0, none⟩), .int .i64 size, .int .i64 made] 67, blk gp [.chan (some c)] 95, chn c cap ((wptr wl).map fun n : Nat => Value.pointer (some ⟨n, 0, none⟩)), many (rsE 77 74 size (wRw wl))]) (hM0 : ¬ M 0) (hT : TabAt64 W) (hR : Rep ws size L) (hn : size ≤ 1048576) (hroom : cap ≤ wl.length) : Calls Tryd.prog 15 #[.pointer (some ⟨gs, 0, none⟩), .pointer (some ⟨gv, 0, none⟩)] W fun e W' => ∃ ws', e = .returned (.bool false) ∧ St W M W' [blk gv [.slice A ws'.length cv, .int .i64 size] 77, row A ws'.length cv (ci .u64 ws') 74 1, blk gs [.pointer (some ⟨gp, 0, none⟩), .int .i64 size, .int .i64 made] 67, blk gp [.chan (some c)] 95, chn c cap ((wptr wl).map fun n : Nat => Value.pointer (some ⟨n, 0, none⟩)), many (rsE 77 74 size (wRw wl))] ∧ Rep ws' size [] := by
  refine calls_enter [.pointer (some ⟨gs, 0, none⟩), .pointer (some ⟨gv, 0, none⟩), undef, undef, undef, undef, undef, undef, undef, undef, undef, undef, undef, undef, undef, undef, undef, undef, undef, undef, undef, undef, undef, undef, undef, undef, undef, undef, undef, undef, undef, undef, undef, undef, undef, undef, undef, undef] Tryd.func15 rfl (by kernel_rfl) ?_
  refine wp_seq ?_
  refine wp_region_lit ?_
  refine ql (.bool false) (by kernel_rfl) (by kernel_rfl) ?_
  refine wpList_nil ?_
  refine x_then ?_
  refine wp_seq ?_
  refine wp_seq ?_
  refine t_start HS (fun _ => False) 15 (by kernel_rfl) rfl ?_
  intro W1 H_ HD_
  clear HD_
  replace HS : St W M W1 [blk gv [.slice A ws.length cv, .int .i64 size] 77, row A ws.length cv (ci .u64 ws) 74 1, blk gs [.pointer (some ⟨gp, 0, none⟩), .int .i64 size, .int .i64 made] 67, blk gp [.chan (some c)] 95, chn c cap ((wptr wl).map fun n : Nat => Value.pointer (some ⟨n, 0, none⟩)), many (rsE 77 74 size (wRw wl))] := H_
  clear H_
  have HV := HS
  have HK := Kpt.refl (fun _ => False) W1
  refine t_q (n := 14) 0 (.pointer (some ⟨gs, 0, none⟩)) rfl (by kernel_rfl) (by kernel_rfl) (fun _ _ _ h => h) (fun w' hk => (by kernel_rfl)) HK ?_
  refine t_q (n := 13) 1 (.bool false) rfl (by kernel_rfl) (by kernel_rfl) (fun _ _ _ h => h) (fun w' hk => (by kernel_rfl)) HK ?_
  refine t_q (n := 12) 2 (.bool false) rfl (by kernel_rfl) (by kernel_rfl) (fun _ _ _ h => h) (fun w' hk => (by kernel_rfl)) HK ?_
  refine t_q (n := 11) 3 (.pointer (some ⟨gv, 0, none⟩)) rfl (by kernel_rfl) (by kernel_rfl) (fun _ _ _ h => h) (fun w' hk => (by kernel_rfl)) HK ?_
  refine t_q (n := 10) 4 (.bool false) rfl (by kernel_rfl) (by kernel_rfl) (fun _ _ _ h => h) (fun w' hk => (by kernel_rfl)) HK ?_
  refine t_q (n := 9) 5 (.bool false) rfl (by kernel_rfl) (by kernel_rfl) (fun _ _ _ h => h) (fun w' hk => (by kernel_rfl)) HK ?_
  refine t_q (n := 8) 6 (.bool false) rfl (by kernel_rfl) (by kernel_rfl) (fun _ _ _ h => h) (fun w' hk => (by kernel_rfl)) HK ?_
  refine t_q (n := 7) 7 (.pointer (some ⟨gv, 0, none⟩)) rfl (by kernel_rfl) (by kernel_rfl) (fun _ _ _ h => h) (fun w' hk => (by kernel_rfl)) HK ?_
  refine t_q (n := 6) 9 (.pointer (some ⟨gs, 0, none⟩)) rfl (by kernel_rfl) (by kernel_rfl) (fun _ _ _ h => h) (fun w' hk => (by kernel_rfl)) HK ?_
  refine t_q (n := 5) 10 (.pointer (some ⟨gs, 0, none⟩)) rfl (by kernel_rfl) (by kernel_rfl) (fun _ _ _ h => h) (fun w' hk => (by kernel_rfl)) HK ?_
  refine t_q (n := 4) 11 (.pointer (some ⟨gs, 1, none⟩)) rfl (by kernel_rfl) (by kernel_rfl) (fun _ _ _ h => h) (fun w' hk => (by kernel_rfl)) HK ?_
  refine t_q (n := 3) 12 (.int .i64 size) rfl (by kernel_rfl) (by kernel_rfl) (fun _ _ _ h => h) (fun w' hk => (R_load (p := ⟨gs, 1, none⟩) (by kernel_rfl) (by kernel_rfl) (by kernel_rfl) (hk.cell (HV.cell (i := 2) (j := 1) rfl rfl)))) HK ?_
  refine t_c (n := 2) 8 (f := 21) (args := #[.pointer (some ⟨gv, 0, none⟩)]) rfl (by kernel_rfl) (by kernel_rfl) (R_call #[.pointer (some ⟨gv, 0, none⟩)] Tryd.func21 (by kernel_rfl) (by kernel_rfl) (by kernel_rfl)) ?_
  refine (dsize _ _ _ (HS.cell (i := 0) (j := 1) rfl rfl)).mono ?_
  rintro e W2 ⟨rfl, H_⟩
  refine ⟨_, rfl, HK.tr H_.kept.nil, ?_⟩
  replace HK := HK.tr H_.kept.nil
  replace HS : St W M W2 [blk gv [.slice A ws.length cv, .int .i64 size] 77, row A ws.length cv (ci .u64 ws) 74 1, blk gs [.pointer (some ⟨gp, 0, none⟩), .int .i64 size, .int .i64 made] 67, blk gp [.chan (some c)] 95, chn c cap ((wptr wl).map fun n : Nat => Value.pointer (some ⟨n, 0, none⟩)), many (rsE 77 74 size (wRw wl))] := HS.join (F := []) (G := []) H_
  clear H_
  refine t_q (n := 1) 13 (.bool false) rfl (by kernel_rfl) (by kernel_rfl) (fun _ _ _ h => h) (fun w' hk => (R_beq (b := (size != size)) (by kernel_rfl) (bne_f (by omega)))) HK ?_
  refine t_q (n := 0) 14 (.bool false) rfl (by kernel_rfl) (by kernel_rfl) (fun _ _ _ h => h) (fun w' hk => (by kernel_rfl)) HK ?_
  refine t_done (by kernel_rfl) ?_
  clear HV HK
  refine x_then ?_
  refine wp_cond_false (by kernel_rfl) ?_
  refine wp_skip ?_
  refine x_then ?_
  refine wp_seq ?_
  refine wp_seq ?_
  refine wp_region_lit ?_
  refine ql (.pointer (some ⟨gv, 0, none⟩)) (by kernel_rfl) (by kernel_rfl) ?_
  refine qc (f := 41) (args := #[.pointer (some ⟨gv, 0, none⟩), .int .i64 0]) (by kernel_rfl) (R_call #[.pointer (some ⟨gv, 0, none⟩), .int .i64 0] Tryd.func41 (by kernel_rfl) (by kernel_rfl) (by kernel_rfl)) ?_
  have hng := nxt_rng hR 0
  rw [nxt_first (fun x hx => (hR.lim x hx).1)] at hng
  have hT' := hT.old HS hT.pos hM0
  refine (dnext gv cv A ws size L 0 _ (HS.cell (i := 0) (j := 0) rfl rfl) (HS.cell (i := 0) (j := 1) rfl rfl) (Rd.row HS (i := 1) rfl) hR hn hT').mono ?_
  rintro e W3 ⟨rfl, H_⟩
  rw [nxt_first (fun x hx => (hR.lim x hx).1)]
  refine ⟨_, rfl, ?_⟩
  replace HS : St W M W3 [blk gv [.slice A ws.length cv, .int .i64 size] 77, row A ws.length cv (ci .u64 ws) 74 1, blk gs [.pointer (some ⟨gp, 0, none⟩), .int .i64 size, .int .i64 made] 67, blk gp [.chan (some c)] 95, chn c cap ((wptr wl).map fun n : Nat => Value.pointer (some ⟨n, 0, none⟩)), many (rsE 77 74 size (wRw wl))] := HS.join (F := []) (G := []) H_
  clear H_
  refine ql (.int .i64 (L.head?.getD (-1))) (by kernel_rfl) (by kernel_rfl) ?_
  refine wpList_nil ?_
  refine x_then ?_
  refine wp_block ?_
  refine wp_loop_ghost (fun kq a' w' => ∃ (J1 : Nat → Value) (i : Int) (Lk wk : List Int), a' = Fr [.pointer (some ⟨gs, 0, none⟩), .pointer (some ⟨gv, 0, none⟩), undef, undef, .bool false, .int .i64 i, .pointer (some ⟨gs, 0, none⟩), .bool false, .bool false, .pointer (some ⟨gv, 0, none⟩), .bool false, .bool false, .bool false, .pointer (some ⟨gv, 0, none⟩), .int .i64 size, .pointer (some ⟨gs, 0, none⟩), .pointer (some ⟨gs, 0, none⟩), .pointer (some ⟨gs, 1, none⟩), .int .i64 size, .bool false, .bool false, .pointer (some ⟨gv, 0, none⟩), .int .i64 (L.head?.getD (-1)), (J1 23), (J1 24), (J1 25), (J1 26), (J1 27), (J1 28), (J1 29), (J1 30), (J1 31), undef, undef, undef, undef, undef, undef] ∧ kq = Lk.length ∧ i = Lk.head?.getD (-1) ∧ Rep wk size Lk ∧ St W M w' [blk gv [.slice A wk.length cv, .int .i64 size] 77, row A wk.length cv (ci .u64 wk) 74 1, blk gs [.pointer (some ⟨gp, 0, none⟩), .int .i64 size, .int .i64 made] 67, blk gp [.chan (some c)] 95, chn c cap ((wptr wl).map fun n : Nat => Value.pointer (some ⟨n, 0, none⟩)), many (rsE 77 74 size (wRw wl))]) L.length ⟨(fun k_ : Nat => List.getD [.pointer (some ⟨gs, 0, none⟩), .pointer (some ⟨gv, 0, none⟩), undef, undef, .bool false, .int .i64 (L.head?.getD (-1)), .pointer (some ⟨gs, 0, none⟩), .bool false, .bool false, .pointer (some ⟨gv, 0, none⟩), .bool false, .bool false, .bool false, .pointer (some ⟨gv, 0, none⟩), .int .i64 size, .pointer (some ⟨gs, 0, none⟩), .pointer (some ⟨gs, 0, none⟩), .pointer (some ⟨gs, 1, none⟩), .int .i64 size, .bool false, .bool false, .pointer (some ⟨gv, 0, none⟩), .int .i64 (L.head?.getD (-1)), undef, undef, undef, undef, undef, undef, undef, undef, undef, undef, undef, undef, undef, undef, undef] k_ undef), _, L, ws, congrArg Fr (by kernel_rfl), rfl, rfl, hR, HS⟩ ?_
  clear HS
  intro kq a' WB hrel
  obtain ⟨J1, i, Lk, wk, rfl, hk, hi, hRk, HS⟩ := hrel
  rcases Lk with _ | ⟨x, t⟩
  · skip
    have hi : i = -1 := hi
    refine wp_seq ?_
    refine wp_seq ?_
    refine wp_region_lit ?_
    refine ql (.int .i64 i) (by kernel_rfl) (by kernel_rfl) ?_
    refine ql (.bool false) (by kernel_rfl) (R_nbool (p := i ≥ (0 : Int)) (by kernel_rfl) (by omega)) ?_
    refine wpList_nil ?_
    refine x_then ?_
    refine wp_cond_false (by kernel_rfl) ?_
    refine wp_exit ?_
    refine x_thenE ?_
    refine x_thenE ?_
    refine x_hit ?_
    refine x_then ?_
    refine wp_seq ?_
    refine wp_region_lit ?_
    refine ql (.pointer (some ⟨gs, 0, none⟩)) (by kernel_rfl) (by kernel_rfl) ?_
    refine ql (.pointer (some ⟨gs, 0, none⟩)) (by kernel_rfl) (by kernel_rfl) ?_
    refine ql (.pointer (some ⟨gs, 0, none⟩)) (by kernel_rfl) (by kernel_rfl) ?_
    refine ql (.pointer (some ⟨gp, 0, none⟩)) (by kernel_rfl) (R_load (p := ⟨gs, 0, none⟩) (by kernel_rfl) (by kernel_rfl) (by kernel_rfl) (HS.cell (i := 2) (j := 0) rfl rfl)) ?_
    refine ql (.pointer (some ⟨gv, 0, none⟩)) (by kernel_rfl) (by kernel_rfl) ?_
    refine qc (f := 43) (args := #[.pointer (some ⟨gp, 0, none⟩), .pointer (some ⟨gv, 0, none⟩)]) (by kernel_rfl) (R_call #[.pointer (some ⟨gp, 0, none⟩), .pointer (some ⟨gv, 0, none⟩)] Tryd.func43 (by kernel_rfl) (by kernel_rfl) (by kernel_rfl)) ?_
    replace HS : St W M WB [blk gp [.chan (some c)] 95, chn c cap ((wptr wl).map fun n : Nat => Value.pointer (some ⟨n, 0, none⟩)), blk gs [.pointer (some ⟨gp, 0, none⟩), .int .i64 size, .int .i64 made] 67, many (rsE 77 74 size (wRw wl)), blk gv [.slice A wk.length cv, .int .i64 size] 77, row A wk.length cv (ci .u64 wk) 74 1] := HS.perm (perm_ [3, 4, 2, 5, 0, 1] (by kernel_rfl) rfl)
    refine (pputP_full gp c 95 cap (wptr wl) gv _ _ (St.focus (F := [blk gp [.chan (some c)] 95, chn c cap ((wptr wl).map fun n : Nat => Value.pointer (some ⟨n, 0, none⟩))]) HS) (by rw [wptr_len]; exact hroom)).mono ?_
    rintro e W4 ⟨rfl, H_⟩
    refine ⟨_, rfl, ?_⟩
    replace HS : St W M W4 [blk gp [.chan (some c)] 95, chn c cap ((wptr wl).map fun n : Nat => Value.pointer (some ⟨n, 0, none⟩)), blk gs [.pointer (some ⟨gp, 0, none⟩), .int .i64 size, .int .i64 made] 67, many (rsE 77 74 size (wRw wl)), blk gv [.slice A wk.length cv, .int .i64 size] 77, row A wk.length cv (ci .u64 wk) 74 1] := HS.join (F := [blk gp [.chan (some c)] 95, chn c cap ((wptr wl).map fun n : Nat => Value.pointer (some ⟨n, 0, none⟩))]) (G := [blk gp [.chan (some c)] 95, chn c cap ((wptr wl).map fun n : Nat => Value.pointer (some ⟨n, 0, none⟩))]) H_
    clear H_
    refine ql (.bool false) (by kernel_rfl) (by kernel_rfl) ?_
    refine wpList_nil ?_
    refine x_then ?_
    refine wp_ret ?_
    refine ret_ (.bool false) (by kernel_rfl) ?_
    replace HS : St W M W4 [blk gv [.slice A wk.length cv, .int .i64 size] 77, row A wk.length cv (ci .u64 wk) 74 1, blk gs [.pointer (some ⟨gp, 0, none⟩), .int .i64 size, .int .i64 made] 67, blk gp [.chan (some c)] 95, chn c cap ((wptr wl).map fun n : Nat => Value.pointer (some ⟨n, 0, none⟩)), many (rsE 77 74 size (wRw wl))] := HS.perm (perm_ [4, 5, 2, 0, 1, 3] (by kernel_rfl) rfl)
    exact ⟨wk, rfl, HS, hRk⟩
  · skip
    have hi : i = x := hi
    subst hi
    have hlx := hRk.lim i (by simp)
    refine wp_seq ?_
    refine wp_seq ?_
    refine wp_region_lit ?_
    refine ql (.int .i64 i) (by kernel_rfl) (by kernel_rfl) ?_
    refine ql (.bool true) (by kernel_rfl) (R_bool (p := i ≥ (0 : Int)) (by kernel_rfl) (by omega)) ?_
    refine wpList_nil ?_
    refine x_then ?_
    refine wp_cond_true (by kernel_rfl) ?_
    refine wp_skip ?_
    refine x_then ?_
    refine wp_seq ?_
    refine wp_block ?_
    refine wp_region_lit ?_
    refine ql (.pointer (some ⟨gv, 0, none⟩)) (by kernel_rfl) (by kernel_rfl) ?_
    refine ql (.int .i64 i) (by kernel_rfl) (by kernel_rfl) ?_
    refine qc (f := 42) (args := #[.pointer (some ⟨gv, 0, none⟩), .int .i64 i]) (by kernel_rfl) (R_call #[.pointer (some ⟨gv, 0, none⟩), .int .i64 i] Tryd.func42 (by kernel_rfl) (by kernel_rfl) (by kernel_rfl)) ?_
    refine (ddel_old gv cv A wk size (i :: t) i _ _ (St.focus (F := [blk gv [.slice A wk.length cv, .int .i64 size] 77, row A wk.length cv (ci .u64 wk) 74 1]) HS) hRk hn (by simp)).mono ?_
    rintro e W5 ⟨wk2, rfl, H_, hRd⟩
    have hdh := del_head hRk.srt
    rw [hdh.1] at hRd
    refine ⟨_, rfl, ?_⟩
    replace HS : St W M W5 [blk gv [.slice A wk2.length cv, .int .i64 size] 77, row A wk2.length cv (ci .u64 wk2) 74 1, blk gs [.pointer (some ⟨gp, 0, none⟩), .int .i64 size, .int .i64 made] 67, blk gp [.chan (some c)] 95, chn c cap ((wptr wl).map fun n : Nat => Value.pointer (some ⟨n, 0, none⟩)), many (rsE 77 74 size (wRw wl))] := HS.join (F := [blk gv [.slice A wk.length cv, .int .i64 size] 77, row A wk.length cv (ci .u64 wk) 74 1]) (G := [blk gv [.slice A wk2.length cv, .int .i64 size] 77, row A wk2.length cv (ci .u64 wk2) 74 1]) H_
    clear H_
    refine wpList_nil ?_
    refine x_inb ?_
    refine x_then ?_
    refine wp_region_lit ?_
    refine ql (.pointer (some ⟨gv, 0, none⟩)) (by kernel_rfl) (by kernel_rfl) ?_
    refine ql (.int .i64 i) (by kernel_rfl) (by kernel_rfl) ?_
    refine ql (.int .i64 (i + 1)) (by kernel_rfl) (R_int (by kernel_rfl) (w64 (by omega))) ?_
    refine qc (f := 41) (args := #[.pointer (some ⟨gv, 0, none⟩), .int .i64 (i + 1)]) (by kernel_rfl) (R_call #[.pointer (some ⟨gv, 0, none⟩), .int .i64 (i + 1)] Tryd.func41 (by kernel_rfl) (by kernel_rfl) (by kernel_rfl)) ?_
    have hng := nxt_rng hRd (i + 1)
    rw [hdh.2] at hng
    have hT' := hT.old HS hT.pos hM0
    refine (dnext gv cv A wk2 size t (i + 1) _ (HS.cell (i := 0) (j := 0) rfl rfl) (HS.cell (i := 0) (j := 1) rfl rfl) (Rd.row HS (i := 1) rfl) hRd hn hT').mono ?_
    rintro e W6 ⟨rfl, H_⟩
    rw [hdh.2]
    refine ⟨_, rfl, ?_⟩
    replace HS : St W M W6 [blk gv [.slice A wk2.length cv, .int .i64 size] 77, row A wk2.length cv (ci .u64 wk2) 74 1, blk gs [.pointer (some ⟨gp, 0, none⟩), .int .i64 size, .int .i64 made] 67, blk gp [.chan (some c)] 95, chn c cap ((wptr wl).map fun n : Nat => Value.pointer (some ⟨n, 0, none⟩)), many (rsE 77 74 size (wRw wl))] := HS.join (F := []) (G := []) H_
    clear H_
    refine ql (.int .i64 (t.head?.getD (-1))) (by kernel_rfl) (by kernel_rfl) ?_
    refine wpList_nil ?_
    refine x_then ?_
    exact ⟨t.length, by rw [hk]; simp, (fun k_ : Nat => List.getD [.pointer (some ⟨gs, 0, none⟩), .pointer (some ⟨gv, 0, none⟩), undef, undef, .bool false, .int .i64 (t.head?.getD (-1)), .pointer (some ⟨gs, 0, none⟩), .bool false, .bool false, .pointer (some ⟨gv, 0, none⟩), .bool false, .bool false, .bool false, .pointer (some ⟨gv, 0, none⟩), .int .i64 size, .pointer (some ⟨gs, 0, none⟩), .pointer (some ⟨gs, 0, none⟩), .pointer (some ⟨gs, 1, none⟩), .int .i64 size, .bool false, .bool false, .pointer (some ⟨gv, 0, none⟩), .int .i64 (L.head?.getD (-1)), .int .i64 i, .bool true, .pointer (some ⟨gv, 0, none⟩), .int .i64 i, .int .i64 (i + 1), .int .i64 (t.head?.getD (-1)), .pointer (some ⟨gv, 0, none⟩), .int .i64 i, .bool true, undef, undef, undef, undef, undef, undef] k_ undef), _, t, wk2, congrArg Fr (by kernel_rfl), rfl, rfl, hRd, HS⟩

end Go.Proofs.YtgoapobflajliaaDoor
