/- For every number nil pools and sets of chapter 39 have no room and nothing, and sets of another size are not taken back: PoolNone returns true, and its argument reads as it did. This text: the walks through the functions that the statement reaches. No condition but those in the statement. -/
import Derived.WalkKit
import Derived.StillTailTactics
import Derived.Deep.LoopGhost
import Derived.KernelRfl
import Derived.Deep.OwnRows
import Derived.Laws.OwnMore
import Derived.Laws.MakeOwn
import Derived.Maps.AppendAt
import Derived.OrdersHeld
import Derived.LaidEql
import Derived.Conc.LoneCalls
import Derived.Conc.LoneSelect
import Derived.Conc.LoneSelectN
import Derived.Test.YtgoapobflajliaaDoorProg
import Derived.Test.YtgoapobflajliaaDoorHa
namespace Go.Proofs.YtgoapobflajliaaDoor
open Go Go.RowKit Go.Shelf Go.Proofs.YtgoapobflajliaaDoor.Hp
attribute [local irreducible] wpStill wpList Code.wp TA
set_option linter.unusedVariables false
set_option linter.unusedSimpArgs false

set_option maxRecDepth 100000 in
set_option maxHeartbeats 1000000 in
theorem dsize (g : Nat) (n : Int) (W : World) (hz1 : W.cell? ⟨g, 1, none⟩ = some (.int .i64 n)) : Calls Tryd.prog 21 #[.pointer (some ⟨g, 0, none⟩)] W fun e W' => e = .returned (.int .i64 n) ∧ St W (owns []) W' [] := by
  have HS : St W (owns []) W [] := St.start W _
  refine calls_enter [.pointer (some ⟨g, 0, none⟩), undef, undef, undef, undef, undef, undef, undef, undef] Tryd.func21 rfl (by kernel_rfl) ?_
  refine wp_seq ?_
  refine wp_region_lit ?_
  refine ql (.int .i64 0) (by kernel_rfl) (by kernel_rfl) ?_
  refine wpList_nil ?_
  refine x_then ?_
  refine wp_seq ?_
  refine wp_seq ?_
  refine wp_region_lit ?_
  refine ql (.pointer (some ⟨g, 0, none⟩)) (by kernel_rfl) (by kernel_rfl) ?_
  refine ql (.bool false) (by kernel_rfl) (by kernel_rfl) ?_
  refine wpList_nil ?_
  refine x_then ?_
  refine wp_cond_false (by kernel_rfl) ?_
  refine wp_skip ?_
  refine x_then ?_
  refine wp_seq ?_
  refine wp_region_lit ?_
  refine ql (.pointer (some ⟨g, 0, none⟩)) (by kernel_rfl) (by kernel_rfl) ?_
  refine ql (.pointer (some ⟨g, 0, none⟩)) (by kernel_rfl) (by kernel_rfl) ?_
  refine ql (.pointer (some ⟨g, 1, none⟩)) (by kernel_rfl) (by kernel_rfl) ?_
  refine ql (.int .i64 n) (by kernel_rfl) (R_load (p := ⟨g, 1, none⟩) (by kernel_rfl) (by kernel_rfl) (by kernel_rfl) (HS.old0 hz1)) ?_
  refine ql (.int .i64 n) (by kernel_rfl) (by kernel_rfl) ?_
  refine wpList_nil ?_
  refine x_then ?_
  refine wp_ret ?_
  refine ret_ (.int .i64 n) (by kernel_rfl) ?_
  exact ⟨rfl, HS⟩

set_option maxRecDepth 100000 in
set_option maxHeartbeats 1000000 in
theorem dis_t (g : Nat) (n i : Int) (W : World) (hz1 : W.cell? ⟨g, 1, none⟩ = some (.int .i64 n)) (h0 : 0 ≤ i) (h1 : i < n) : Calls Tryd.prog 45 #[.pointer (some ⟨g, 0, none⟩), .int .i64 i] W fun e W' => e = .returned (.bool true) ∧ St W (owns []) W' [] := by
  have HS : St W (owns []) W [] := St.start W _
  refine calls_enter [.pointer (some ⟨g, 0, none⟩), .int .i64 i, undef, undef, undef, undef, undef, undef, undef, undef, undef, undef, undef] Tryd.func45 rfl (by kernel_rfl) ?_
  refine wp_seq ?_
  refine wp_region_lit ?_
  refine ql (.bool false) (by kernel_rfl) (by kernel_rfl) ?_
  refine wpList_nil ?_
  refine x_then ?_
  refine wp_seq ?_
  refine wp_region_lit ?_
  refine ql (.int .i64 i) (by kernel_rfl) (by kernel_rfl) ?_
  by_cases hc1 : i ≥ (0 : Int)
  · skip
    refine ql (.bool true) (by kernel_rfl) (R_bool (p := i ≥ (0 : Int)) (by kernel_rfl) (hc1)) ?_
    refine ql (.bool true) (by kernel_rfl) (by kernel_rfl) ?_
    refine ql (.int .i64 i) (by kernel_rfl) (by kernel_rfl) ?_
    refine ql (.pointer (some ⟨g, 0, none⟩)) (by kernel_rfl) (by kernel_rfl) ?_
    refine qc (f := 21) (args := #[.pointer (some ⟨g, 0, none⟩)]) (by kernel_rfl) (R_call #[.pointer (some ⟨g, 0, none⟩)] Tryd.func21 (by kernel_rfl) (by kernel_rfl) (by kernel_rfl)) ?_
    refine (dsize _ _ _ (HS.old0 hz1)).mono ?_
    rintro e W2 ⟨rfl, H_⟩
    refine ⟨_, rfl, ?_⟩
    replace HS : St W (owns []) W2 [] := HS.join (F := []) (G := []) H_
    clear H_
    by_cases hc3 : i < n
    · skip
      refine ql (.bool true) (by kernel_rfl) (R_bool (p := i < n) (by kernel_rfl) (hc3)) ?_
      refine ql (.bool true) (by kernel_rfl) (by kernel_rfl) ?_
      refine ql (.bool true) (by kernel_rfl) (by kernel_rfl) ?_
      refine wpList_nil ?_
      refine x_then ?_
      refine wp_ret ?_
      refine ret_ (.bool true) (by kernel_rfl) ?_
      exact ⟨rfl, HS⟩
    · skip
      refine ql (.bool false) (by kernel_rfl) (R_nbool (p := i < n) (by kernel_rfl) (hc3)) ?_
      refine ql (.bool false) (by kernel_rfl) (by kernel_rfl) ?_
      refine ql (.bool false) (by kernel_rfl) (by kernel_rfl) ?_
      refine wpList_nil ?_
      refine x_then ?_
      refine wp_ret ?_
      refine ret_ (.bool false) (by kernel_rfl) ?_
      exfalso; omega
  · skip
    refine ql (.bool false) (by kernel_rfl) (R_nbool (p := i ≥ (0 : Int)) (by kernel_rfl) (hc1)) ?_
    refine ql (.bool false) (by kernel_rfl) (by kernel_rfl) ?_
    refine qln (by kernel_rfl) ?_
    refine qln (by kernel_rfl) ?_
    refine qln (by kernel_rfl) ?_
    refine qln (by kernel_rfl) ?_
    refine ql (.bool false) (by kernel_rfl) (by kernel_rfl) ?_
    refine ql (.bool false) (by kernel_rfl) (by kernel_rfl) ?_
    refine wpList_nil ?_
    refine x_then ?_
    refine wp_ret ?_
    refine ret_ (.bool false) (by kernel_rfl) ?_
    exfalso; omega

set_option maxRecDepth 100000 in
set_option maxHeartbeats 1000000 in
theorem dis_f (g : Nat) (n i : Int) (W : World) (hz1 : W.cell? ⟨g, 1, none⟩ = some (.int .i64 n)) (ho : i < 0 ∨ n ≤ i) : Calls Tryd.prog 45 #[.pointer (some ⟨g, 0, none⟩), .int .i64 i] W fun e W' => e = .returned (.bool false) ∧ St W (owns []) W' [] := by
  have HS : St W (owns []) W [] := St.start W _
  refine calls_enter [.pointer (some ⟨g, 0, none⟩), .int .i64 i, undef, undef, undef, undef, undef, undef, undef, undef, undef, undef, undef] Tryd.func45 rfl (by kernel_rfl) ?_
  refine wp_seq ?_
  refine wp_region_lit ?_
  refine ql (.bool false) (by kernel_rfl) (by kernel_rfl) ?_
  refine wpList_nil ?_
  refine x_then ?_
  refine wp_seq ?_
  refine wp_region_lit ?_
  refine ql (.int .i64 i) (by kernel_rfl) (by kernel_rfl) ?_
  by_cases hc1 : i ≥ (0 : Int)
  · skip
    refine ql (.bool true) (by kernel_rfl) (R_bool (p := i ≥ (0 : Int)) (by kernel_rfl) (hc1)) ?_
    refine ql (.bool true) (by kernel_rfl) (by kernel_rfl) ?_
    refine ql (.int .i64 i) (by kernel_rfl) (by kernel_rfl) ?_
    refine ql (.pointer (some ⟨g, 0, none⟩)) (by kernel_rfl) (by kernel_rfl) ?_
    refine qc (f := 21) (args := #[.pointer (some ⟨g, 0, none⟩)]) (by kernel_rfl) (R_call #[.pointer (some ⟨g, 0, none⟩)] Tryd.func21 (by kernel_rfl) (by kernel_rfl) (by kernel_rfl)) ?_
    refine (dsize _ _ _ (HS.old0 hz1)).mono ?_
    rintro e W2 ⟨rfl, H_⟩
    refine ⟨_, rfl, ?_⟩
    replace HS : St W (owns []) W2 [] := HS.join (F := []) (G := []) H_
    clear H_
    by_cases hc3 : i < n
    · skip
      refine ql (.bool true) (by kernel_rfl) (R_bool (p := i < n) (by kernel_rfl) (hc3)) ?_
      refine ql (.bool true) (by kernel_rfl) (by kernel_rfl) ?_
      refine ql (.bool true) (by kernel_rfl) (by kernel_rfl) ?_
      refine wpList_nil ?_
      refine x_then ?_
      refine wp_ret ?_
      refine ret_ (.bool true) (by kernel_rfl) ?_
      exfalso; omega
    · skip
      refine ql (.bool false) (by kernel_rfl) (R_nbool (p := i < n) (by kernel_rfl) (hc3)) ?_
      refine ql (.bool false) (by kernel_rfl) (by kernel_rfl) ?_
      refine ql (.bool false) (by kernel_rfl) (by kernel_rfl) ?_
      refine wpList_nil ?_
      refine x_then ?_
      refine wp_ret ?_
      refine ret_ (.bool false) (by kernel_rfl) ?_
      exact ⟨rfl, HS⟩
  · skip
    refine ql (.bool false) (by kernel_rfl) (R_nbool (p := i ≥ (0 : Int)) (by kernel_rfl) (hc1)) ?_
    refine ql (.bool false) (by kernel_rfl) (by kernel_rfl) ?_
    refine qln (by kernel_rfl) ?_
    refine qln (by kernel_rfl) ?_
    refine qln (by kernel_rfl) ?_
    refine qln (by kernel_rfl) ?_
    refine ql (.bool false) (by kernel_rfl) (by kernel_rfl) ?_
    refine ql (.bool false) (by kernel_rfl) (by kernel_rfl) ?_
    refine wpList_nil ?_
    refine x_then ?_
    refine wp_ret ?_
    refine ret_ (.bool false) (by kernel_rfl) ?_
    exact ⟨rfl, HS⟩

set_option maxRecDepth 100000 in
set_option maxHeartbeats 1000000 in
theorem dhas_t (g c : Nat) (A : Option Addr) (ws : List Int) (n : Int) (L : List Int) (i : Int) (W : World) (hz0 : W.cell? ⟨g, 0, none⟩ = some (.slice A ws.length c)) (hz1 : W.cell? ⟨g, 1, none⟩ = some (.int .i64 n)) (hr : Rd W A (ci .u64 ws)) (hR : Rep ws n L) (hn : n ≤ 1048576) (hi : i ∈ L) : Calls Tryd.prog 19 #[.pointer (some ⟨g, 0, none⟩), .int .i64 i] W fun e W' => e = .returned (.bool true) ∧ St W (owns []) W' [] := by
  have HS : St W (owns []) W [] := St.start W _
  have h0 := (hR.lim i hi).1
  have h1 := (hR.lim i hi).2
  have hix := hR.idx h0 h1
  refine calls_enter [.pointer (some ⟨g, 0, none⟩), .int .i64 i, undef, undef, undef, undef, undef, undef, undef, undef, undef, undef, undef, undef, undef, undef, undef, undef, undef, undef, undef, undef, undef] Tryd.func19 rfl (by kernel_rfl) ?_
  refine wp_seq ?_
  refine wp_region_lit ?_
  refine ql (.bool false) (by kernel_rfl) (by kernel_rfl) ?_
  refine wpList_nil ?_
  refine x_then ?_
  refine wp_seq ?_
  refine wp_region_lit ?_
  refine ql (.pointer (some ⟨g, 0, none⟩)) (by kernel_rfl) (by kernel_rfl) ?_
  refine ql (.int .i64 i) (by kernel_rfl) (by kernel_rfl) ?_
  refine qc (f := 45) (args := #[.pointer (some ⟨g, 0, none⟩), .int .i64 i]) (by kernel_rfl) (R_call #[.pointer (some ⟨g, 0, none⟩), .int .i64 i] Tryd.func45 (by kernel_rfl) (by kernel_rfl) (by kernel_rfl)) ?_
  refine (dis_t _ _ i _ (HS.old0 hz1) (hR.lim i hi).1 (hR.lim i hi).2).mono ?_
  rintro e W1 ⟨rfl, H_⟩
  refine ⟨_, rfl, ?_⟩
  replace HS : St W (owns []) W1 [] := HS.join (F := []) (G := []) H_
  clear H_
  refine ql (.bool true) (by kernel_rfl) (by kernel_rfl) ?_
  refine ql (.pointer (some ⟨g, 0, none⟩)) (by kernel_rfl) (by kernel_rfl) ?_
  refine ql (.pointer (some ⟨g, 0, none⟩)) (by kernel_rfl) (by kernel_rfl) ?_
  refine ql (.pointer (some ⟨g, 0, none⟩)) (by kernel_rfl) (by kernel_rfl) ?_
  refine ql (.slice A ws.length c) (by kernel_rfl) (R_load (p := ⟨g, 0, none⟩) (by kernel_rfl) (by kernel_rfl) (by kernel_rfl) (HS.old0 hz0)) ?_
  refine ql (.int .i64 i) (by kernel_rfl) (by kernel_rfl) ?_
  refine ql (.int .i64 (i / 64)) (by kernel_rfl) (R_quo (by kernel_rfl) (by kernel_rfl) (by omega) (by omega) (by decide)) ?_
  obtain ⟨ad2, rfl⟩ := Rd.isSome_ hr (by rw [ci_len]; omega)
  refine ql (.pointer (some (ad2.add (i / 64).toNat))) (by kernel_rfl) (R_indexA1 (k := .i64) (p := ad2) (n := ws.length) (c := c) (i := i / 64) (by kernel_rfl) (by kernel_rfl) Tryd.underlying75 (by kernel_rfl) (by omega) (by omega)) ?_
  refine ql (.int .u64 (rdI ws (i / 64))) (by kernel_rfl) (R_load (p := ad2.add (i / 64).toNat) (by kernel_rfl) (by kernel_rfl) (by kernel_rfl) (HS.old0 (hr.at_ (ci_rd (i := i / 64) (by omega) (by omega))))) ?_
  refine ql (.int .i64 i) (by kernel_rfl) (by kernel_rfl) ?_
  refine ql (.int .i64 (i % 64)) (by kernel_rfl) (R_rem2 (by kernel_rfl) (by kernel_rfl) (by omega) (by omega) (by decide)) ?_
  refine ql (.int .u64 (shrW (rdI ws (i / 64)) (i % 64))) (by kernel_rfl) (R_shr (k2 := .i64) (by kernel_rfl) (by kernel_rfl) (hR.rd_at h0 h1) (by omega) (by omega)) ?_
  refine ql (.int .u64 (andW (shrW (rdI ws (i / 64)) (i % 64)) 1)) (by kernel_rfl) (R_and (by kernel_rfl) (by kernel_rfl) (u_shr (hR.rd_at h0 h1)) (u_lit 1 (by decide))) ?_
  refine ql (.bool true) (by kernel_rfl) (R_beq (b := (andW (shrW (rdI ws (i / 64)) (i % 64)) 1 == (1 : Int))) (by kernel_rfl) (beq_t (hR.has_t hi))) ?_
  refine ql (.bool true) (by kernel_rfl) (by kernel_rfl) ?_
  refine ql (.bool true) (by kernel_rfl) (by kernel_rfl) ?_
  refine wpList_nil ?_
  refine x_then ?_
  refine wp_ret ?_
  refine ret_ (.bool true) (by kernel_rfl) ?_
  exact ⟨rfl, HS⟩

set_option maxRecDepth 100000 in
set_option maxHeartbeats 1000000 in
theorem dhas_f (g c : Nat) (A : Option Addr) (ws : List Int) (n : Int) (L : List Int) (i : Int) (W : World) (hz0 : W.cell? ⟨g, 0, none⟩ = some (.slice A ws.length c)) (hz1 : W.cell? ⟨g, 1, none⟩ = some (.int .i64 n)) (hr : Rd W A (ci .u64 ws)) (hR : Rep ws n L) (hn : n ≤ 1048576) (h0 : 0 ≤ i) (h1 : i < n) (hi : i ∉ L) : Calls Tryd.prog 19 #[.pointer (some ⟨g, 0, none⟩), .int .i64 i] W fun e W' => e = .returned (.bool false) ∧ St W (owns []) W' [] := by
  have HS : St W (owns []) W [] := St.start W _
  have hix := hR.idx h0 h1
  refine calls_enter [.pointer (some ⟨g, 0, none⟩), .int .i64 i, undef, undef, undef, undef, undef, undef, undef, undef, undef, undef, undef, undef, undef, undef, undef, undef, undef, undef, undef, undef, undef] Tryd.func19 rfl (by kernel_rfl) ?_
  refine wp_seq ?_
  refine wp_region_lit ?_
  refine ql (.bool false) (by kernel_rfl) (by kernel_rfl) ?_
  refine wpList_nil ?_
  refine x_then ?_
  refine wp_seq ?_
  refine wp_region_lit ?_
  refine ql (.pointer (some ⟨g, 0, none⟩)) (by kernel_rfl) (by kernel_rfl) ?_
  refine ql (.int .i64 i) (by kernel_rfl) (by kernel_rfl) ?_
  refine qc (f := 45) (args := #[.pointer (some ⟨g, 0, none⟩), .int .i64 i]) (by kernel_rfl) (R_call #[.pointer (some ⟨g, 0, none⟩), .int .i64 i] Tryd.func45 (by kernel_rfl) (by kernel_rfl) (by kernel_rfl)) ?_
  refine (dis_t _ _ i _ (HS.old0 hz1) h0 h1).mono ?_
  rintro e W1 ⟨rfl, H_⟩
  refine ⟨_, rfl, ?_⟩
  replace HS : St W (owns []) W1 [] := HS.join (F := []) (G := []) H_
  clear H_
  refine ql (.bool true) (by kernel_rfl) (by kernel_rfl) ?_
  refine ql (.pointer (some ⟨g, 0, none⟩)) (by kernel_rfl) (by kernel_rfl) ?_
  refine ql (.pointer (some ⟨g, 0, none⟩)) (by kernel_rfl) (by kernel_rfl) ?_
  refine ql (.pointer (some ⟨g, 0, none⟩)) (by kernel_rfl) (by kernel_rfl) ?_
  refine ql (.slice A ws.length c) (by kernel_rfl) (R_load (p := ⟨g, 0, none⟩) (by kernel_rfl) (by kernel_rfl) (by kernel_rfl) (HS.old0 hz0)) ?_
  refine ql (.int .i64 i) (by kernel_rfl) (by kernel_rfl) ?_
  refine ql (.int .i64 (i / 64)) (by kernel_rfl) (R_quo (by kernel_rfl) (by kernel_rfl) (by omega) (by omega) (by decide)) ?_
  obtain ⟨ad2, rfl⟩ := Rd.isSome_ hr (by rw [ci_len]; omega)
  refine ql (.pointer (some (ad2.add (i / 64).toNat))) (by kernel_rfl) (R_indexA1 (k := .i64) (p := ad2) (n := ws.length) (c := c) (i := i / 64) (by kernel_rfl) (by kernel_rfl) Tryd.underlying75 (by kernel_rfl) (by omega) (by omega)) ?_
  refine ql (.int .u64 (rdI ws (i / 64))) (by kernel_rfl) (R_load (p := ad2.add (i / 64).toNat) (by kernel_rfl) (by kernel_rfl) (by kernel_rfl) (HS.old0 (hr.at_ (ci_rd (i := i / 64) (by omega) (by omega))))) ?_
  refine ql (.int .i64 i) (by kernel_rfl) (by kernel_rfl) ?_
  refine ql (.int .i64 (i % 64)) (by kernel_rfl) (R_rem2 (by kernel_rfl) (by kernel_rfl) (by omega) (by omega) (by decide)) ?_
  refine ql (.int .u64 (shrW (rdI ws (i / 64)) (i % 64))) (by kernel_rfl) (R_shr (k2 := .i64) (by kernel_rfl) (by kernel_rfl) (hR.rd_at h0 h1) (by omega) (by omega)) ?_
  refine ql (.int .u64 (andW (shrW (rdI ws (i / 64)) (i % 64)) 1)) (by kernel_rfl) (R_and (by kernel_rfl) (by kernel_rfl) (u_shr (hR.rd_at h0 h1)) (u_lit 1 (by decide))) ?_
  refine ql (.bool false) (by kernel_rfl) (R_beq (b := (andW (shrW (rdI ws (i / 64)) (i % 64)) 1 == (1 : Int))) (by kernel_rfl) (beq_f (hR.has_f h0 h1 hi))) ?_
  refine ql (.bool false) (by kernel_rfl) (by kernel_rfl) ?_
  refine ql (.bool false) (by kernel_rfl) (by kernel_rfl) ?_
  refine wpList_nil ?_
  refine x_then ?_
  refine wp_ret ?_
  refine ret_ (.bool false) (by kernel_rfl) ?_
  exact ⟨rfl, HS⟩

set_option maxRecDepth 100000 in
set_option maxHeartbeats 1000000 in
theorem dhas_o (g c : Nat) (A : Option Addr) (ws : List Int) (n : Int) (L : List Int) (i : Int) (W : World) (hz0 : W.cell? ⟨g, 0, none⟩ = some (.slice A ws.length c)) (hz1 : W.cell? ⟨g, 1, none⟩ = some (.int .i64 n)) (hr : Rd W A (ci .u64 ws)) (hR : Rep ws n L) (hn : n ≤ 1048576) (ho : i < 0 ∨ n ≤ i) : Calls Tryd.prog 19 #[.pointer (some ⟨g, 0, none⟩), .int .i64 i] W fun e W' => e = .returned (.bool false) ∧ St W (owns []) W' [] := by
  have HS : St W (owns []) W [] := St.start W _
  refine calls_enter [.pointer (some ⟨g, 0, none⟩), .int .i64 i, undef, undef, undef, undef, undef, undef, undef, undef, undef, undef, undef, undef, undef, undef, undef, undef, undef, undef, undef, undef, undef] Tryd.func19 rfl (by kernel_rfl) ?_
  refine wp_seq ?_
  refine wp_region_lit ?_
  refine ql (.bool false) (by kernel_rfl) (by kernel_rfl) ?_
  refine wpList_nil ?_
  refine x_then ?_
  refine wp_seq ?_
  refine wp_region_lit ?_
  refine ql (.pointer (some ⟨g, 0, none⟩)) (by kernel_rfl) (by kernel_rfl) ?_
  refine ql (.int .i64 i) (by kernel_rfl) (by kernel_rfl) ?_
  refine qc (f := 45) (args := #[.pointer (some ⟨g, 0, none⟩), .int .i64 i]) (by kernel_rfl) (R_call #[.pointer (some ⟨g, 0, none⟩), .int .i64 i] Tryd.func45 (by kernel_rfl) (by kernel_rfl) (by kernel_rfl)) ?_
  refine (dis_f _ _ i _ (HS.old0 hz1) ho).mono ?_
  rintro e W1 ⟨rfl, H_⟩
  refine ⟨_, rfl, ?_⟩
  replace HS : St W (owns []) W1 [] := HS.join (F := []) (G := []) H_
  clear H_
  refine ql (.bool false) (by kernel_rfl) (by kernel_rfl) ?_
  refine qln (by kernel_rfl) ?_
  refine qln (by kernel_rfl) ?_
  refine qln (by kernel_rfl) ?_
  refine qln (by kernel_rfl) ?_
  refine qln (by kernel_rfl) ?_
  refine qln (by kernel_rfl) ?_
  refine qln (by kernel_rfl) ?_
  refine qln (by kernel_rfl) ?_
  refine qln (by kernel_rfl) ?_
  refine qln (by kernel_rfl) ?_
  refine qln (by kernel_rfl) ?_
  refine qln (by kernel_rfl) ?_
  refine qln (by kernel_rfl) ?_
  refine ql (.bool false) (by kernel_rfl) (by kernel_rfl) ?_
  refine ql (.bool false) (by kernel_rfl) (by kernel_rfl) ?_
  refine wpList_nil ?_
  refine x_then ?_
  refine wp_ret ?_
  refine ret_ (.bool false) (by kernel_rfl) ?_
  exact ⟨rfl, HS⟩

theorem dhas_n (g c : Nat) (A : Option Addr) (ws : List Int) (n : Int) (L : List Int) (i : Int) (W : World) (hz0 : W.cell? ⟨g, 0, none⟩ = some (.slice A ws.length c)) (hz1 : W.cell? ⟨g, 1, none⟩ = some (.int .i64 n)) (hr : Rd W A (ci .u64 ws)) (hR : Rep ws n L) (hn : n ≤ 1048576) (hi : i ∉ L) : Calls Tryd.prog 19 #[.pointer (some ⟨g, 0, none⟩), .int .i64 i] W fun e W' => e = .returned (.bool false) ∧ St W (owns []) W' [] := by
  by_cases h : 0 ≤ i ∧ i < n
  · exact dhas_f g c A ws n L i W hz0 hz1 hr hR hn h.1 h.2 hi
  · exact dhas_o g c A ws n L i W hz0 hz1 hr hR hn (by omega)


def TabAt64 (W : World) : Prop := ∀ j, j < 64 → W.cell? ⟨0, j, none⟩ = some (.int .u8 ((Lib.deBruijn64tab.getD j 0 : Nat) : Int))


theorem rep_zero {n : Int} {k : Nat} (h0 : 0 ≤ n) (hk : (k : Int) = (n + 63) / 64) : Rep (List.replicate k 0) n [] := by
  refine ⟨by rw [List.length_replicate]; exact hk, h0, fun w hw => ?_, fun i h0 h1 => ?_, List.Pairwise.nil, fun x hx => by simp at hx⟩
  · obtain ⟨_, rfl⟩ := List.mem_replicate.1 hw
    exact u_lit 0 (by decide)
  · have e : rdI (List.replicate k 0) (i / 64) = 0 := by
      unfold rdI
      rw [List.getD_eq_getElem?_getD, List.getElem?_replicate]
      split <;> rfl
    unfold bitI tb
    rw [e, show (0 : Int).toNat = 0 from rfl, Nat.zero_testBit]
    simp

set_option maxRecDepth 100000 in
set_option maxHeartbeats 1000000 in
theorem dnew_ok (n : Int) (W : World) (h0 : 0 ≤ n) (h1 : n ≤ 1048576) : Calls Tryd.prog 40 #[.int .i64 n] W fun e W' => ∃ g a c ws, e = .returned (.tuple #[.pointer (some ⟨g, 0, none⟩), .int .i64 0]) ∧ St W (owns []) W' [blk g [.slice (some ⟨a, 0, none⟩) ws.length c, .int .i64 n] 77, row (some ⟨a, 0, none⟩) ws.length c (ci .u64 ws) 74 1] ∧ Rep ws n [] := by
  have HS : St W (owns []) W [] := St.start W _
  refine calls_enter [.int .i64 n, undef, undef, undef, undef, undef, undef, undef, undef, undef, undef, undef, undef, undef, undef, undef, undef, undef] Tryd.func40 rfl (by kernel_rfl) ?_
  refine wp_seq ?_
  refine wp_region_lit ?_
  refine ql (.pointer none) (by kernel_rfl) (by kernel_rfl) ?_
  refine ql (.int .i64 0) (by kernel_rfl) (by kernel_rfl) ?_
  refine wpList_nil ?_
  refine x_then ?_
  refine wp_seq ?_
  refine wp_block ?_
  refine wp_seq ?_
  refine wp_region_lit ?_
  refine ql (.int .i64 n) (by kernel_rfl) (by kernel_rfl) ?_
  refine ql (.bool false) (by kernel_rfl) (R_nbool (p := n < (0 : Int)) (by kernel_rfl) (by omega)) ?_
  refine ql (.bool false) (by kernel_rfl) (by kernel_rfl) ?_
  refine wpList_nil ?_
  refine x_then ?_
  refine wp_cond_false (by kernel_rfl) ?_
  refine wp_seq ?_
  refine wp_region_lit ?_
  refine ql (.int .i64 n) (by kernel_rfl) (by kernel_rfl) ?_
  refine ql (.bool false) (by kernel_rfl) (R_nbool (p := n > (1048576 : Int)) (by kernel_rfl) (by omega)) ?_
  refine ql (.bool false) (by kernel_rfl) (by kernel_rfl) ?_
  refine wpList_nil ?_
  refine x_then ?_
  refine wp_cond_false (by kernel_rfl) ?_
  refine wp_skip ?_
  refine x_inb ?_
  refine x_then ?_
  refine wp_seq ?_
  refine wp_region_lit ?_
  refine ql (.int .i64 n) (by kernel_rfl) (by kernel_rfl) ?_
  refine ql (.int .i64 (n + 64)) (by kernel_rfl) (R_int (by kernel_rfl) (w64 (by omega))) ?_
  refine ql (.int .i64 ((n + 64) - 1)) (by kernel_rfl) (R_int (by kernel_rfl) (w64 (by omega))) ?_
  refine ql (.int .i64 (((n + 64) - 1) / 64)) (by kernel_rfl) (R_quo (by kernel_rfl) (by kernel_rfl) (by omega) (by omega) (by decide)) ?_
  refine km HS ((((n + 64) - 1) / 64).toNat) [.int .u64 0] 8 (by kernel_rfl) (k_eq (k := .i64) (m := ((n + 64) - 1) / 64) (by kernel_rfl) (by omega)) (k_eq (k := .i64) (m := ((n + 64) - 1) / 64) (by kernel_rfl) (by omega)) Tryd.underlying75 (by kernel_rfl) (by kernel_rfl) (by kernel_rfl) (by decide) (by omega) (by omega) ?_
  intro g1 W2 H_
  replace HS : St W (owns []) W2 [row (some ⟨g1, 0, none⟩) ((((n + 64) - 1) / 64).toNat) ((((n + 64) - 1) / 64).toNat) (ci .u64 (List.replicate ((((n + 64) - 1) / 64).toNat) 0)) 74 1] := H_.cast_ (by rw [ci_rep]; rfl)
  clear H_
  have rlg1 : (List.replicate ((((n + 64) - 1) / 64).toNat) (0 : Int)).length = (((n + 64) - 1) / 64).toNat := List.length_replicate
  refine ql (.int .i64 n) (by kernel_rfl) (by kernel_rfl) ?_
  refine ql (.agg #[.slice (some ⟨g1, 0, none⟩) ((((n + 64) - 1) / 64).toNat) ((((n + 64) - 1) / 64).toNat), .int .i64 n]) (by kernel_rfl) (by kernel_rfl) ?_
  refine kb HS [.slice (some ⟨g1, 0, none⟩) ((((n + 64) - 1) / 64).toNat) ((((n + 64) - 1) / 64).toNat), .int .i64 n] 77 (fun g => .pointer (some ⟨g, 0, none⟩)) (by kernel_rfl) (by kernel_rfl) ?_
  intro g3 W4 H_
  replace HS : St W (owns []) W4 [blk g3 [.slice (some ⟨g1, 0, none⟩) ((((n + 64) - 1) / 64).toNat) ((((n + 64) - 1) / 64).toNat), .int .i64 n] 77, row (some ⟨g1, 0, none⟩) ((((n + 64) - 1) / 64).toNat) ((((n + 64) - 1) / 64).toNat) (ci .u64 (List.replicate ((((n + 64) - 1) / 64).toNat) 0)) 74 1] := H_
  clear H_
  refine ql (.pointer (some ⟨g3, 0, none⟩)) (by kernel_rfl) (by kernel_rfl) ?_
  refine ql (.int .i64 0) (by kernel_rfl) (by kernel_rfl) ?_
  refine wpList_nil ?_
  refine x_then ?_
  refine wp_ret ?_
  refine ret_ (.tuple #[.pointer (some ⟨g3, 0, none⟩), .int .i64 0]) (by kernel_rfl) ?_
  obtain ⟨ws, hws⟩ : ∃ z_ : List Int, z_ = List.replicate ((((n + 64) - 1) / 64).toNat) 0 := ⟨_, rfl⟩
  have hR : Rep ws n [] := by rw [hws]; exact rep_zero h0 (by omega)
  have hl : ((((n + 64) - 1) / 64).toNat) = ws.length := by rw [hws, List.length_replicate]
  rw [← hws] at HS
  rw [hl] at HS
  exact ⟨_, _, _, ws, by first | rfl | (rw [hl]), HS, hR⟩

set_option maxRecDepth 100000 in
set_option maxHeartbeats 1000000 in
theorem dadd_new (g c : Nat) (A : Option Addr) (ws : List Int) (n : Int) (L : List Int) (i : Int) (W : World) (M : Nat → Prop) (HS : St W M W [blk g [.slice A ws.length c, .int .i64 n] 77, row A ws.length c (ci .u64 ws) 74 1]) (hR : Rep ws n L) (hn : n ≤ 1048576) (h0 : 0 ≤ i) (h1 : i < n) (hi : i ∉ L) : Calls Tryd.prog 18 #[.pointer (some ⟨g, 0, none⟩), .int .i64 i] W fun e W' => ∃ ws', e = .returned (.bool true) ∧ St W M W' [blk g [.slice A ws'.length c, .int .i64 n] 77, row A ws'.length c (ci .u64 ws') 74 1] ∧ Rep ws' n (ins i L) := by
  have hix := hR.idx h0 h1
  refine calls_enter [.pointer (some ⟨g, 0, none⟩), .int .i64 i, undef, undef, undef, undef, undef, undef, undef, undef, undef, undef, undef, undef, undef, undef, undef, undef, undef, undef, undef, undef, undef, undef, undef, undef, undef] Tryd.func18 rfl (by kernel_rfl) ?_
  refine wp_seq ?_
  refine wp_region_lit ?_
  refine ql (.bool false) (by kernel_rfl) (by kernel_rfl) ?_
  refine wpList_nil ?_
  refine x_then ?_
  refine wp_seq ?_
  refine wp_seq ?_
  refine wp_region_lit ?_
  refine ql (.pointer (some ⟨g, 0, none⟩)) (by kernel_rfl) (by kernel_rfl) ?_
  refine ql (.int .i64 i) (by kernel_rfl) (by kernel_rfl) ?_
  refine qc (f := 45) (args := #[.pointer (some ⟨g, 0, none⟩), .int .i64 i]) (by kernel_rfl) (R_call #[.pointer (some ⟨g, 0, none⟩), .int .i64 i] Tryd.func45 (by kernel_rfl) (by kernel_rfl) (by kernel_rfl)) ?_
  refine (dis_t _ _ i _ (HS.cell (i := 0) (j := 1) rfl rfl) h0 h1).mono ?_
  rintro e W1 ⟨rfl, H_⟩
  refine ⟨_, rfl, ?_⟩
  replace HS : St W M W1 [blk g [.slice A ws.length c, .int .i64 n] 77, row A ws.length c (ci .u64 ws) 74 1] := HS.join (F := []) (G := []) H_
  clear H_
  refine ql (.bool false) (by kernel_rfl) (by kernel_rfl) ?_
  refine ql (.bool false) (by kernel_rfl) (by kernel_rfl) ?_
  refine ql (.pointer (some ⟨g, 0, none⟩)) (by kernel_rfl) (by kernel_rfl) ?_
  refine ql (.int .i64 i) (by kernel_rfl) (by kernel_rfl) ?_
  refine qc (f := 19) (args := #[.pointer (some ⟨g, 0, none⟩), .int .i64 i]) (by kernel_rfl) (R_call #[.pointer (some ⟨g, 0, none⟩), .int .i64 i] Tryd.func19 (by kernel_rfl) (by kernel_rfl) (by kernel_rfl)) ?_
  refine (dhas_f g c A ws n L i _ (HS.cell (i := 0) (j := 0) rfl rfl) (HS.cell (i := 0) (j := 1) rfl rfl) (Rd.row HS (i := 1) rfl) hR hn h0 h1 hi).mono ?_
  rintro e W2 ⟨rfl, H_⟩
  refine ⟨_, rfl, ?_⟩
  replace HS : St W M W2 [blk g [.slice A ws.length c, .int .i64 n] 77, row A ws.length c (ci .u64 ws) 74 1] := HS.join (F := []) (G := []) H_
  clear H_
  refine ql (.bool false) (by kernel_rfl) (by kernel_rfl) ?_
  refine wpList_nil ?_
  refine x_then ?_
  refine wp_cond_false (by kernel_rfl) ?_
  refine wp_skip ?_
  refine x_then ?_
  refine wp_seq ?_
  refine rg_still HS 13 (by kernel_rfl) (by kernel_rfl) ?_
  intro W3 H_ HK_
  simp only [List.take_succ_cons, List.take_zero, List.drop_succ_cons, List.drop_zero]
  replace HS : St W M W3 [blk g [.slice A ws.length c, .int .i64 n] 77, row A ws.length c (ci .u64 ws) 74 1] := H_
  clear H_
  clear HK_
  refine qs (.pointer (some ⟨g, 0, none⟩)) (by kernel_rfl) (by kernel_rfl) ?_
  refine qs (.pointer (some ⟨g, 0, none⟩)) (by kernel_rfl) (by kernel_rfl) ?_
  refine qs (.pointer (some ⟨g, 0, none⟩)) (by kernel_rfl) (by kernel_rfl) ?_
  refine qs (.slice A ws.length c) (by kernel_rfl) (R_load (p := ⟨g, 0, none⟩) (by kernel_rfl) (by kernel_rfl) (by kernel_rfl) (HS.cell (i := 0) (j := 0) rfl rfl)) ?_
  refine qs (.int .i64 i) (by kernel_rfl) (by kernel_rfl) ?_
  refine qs (.int .i64 (i / 64)) (by kernel_rfl) (R_quo (by kernel_rfl) (by kernel_rfl) (by omega) (by omega) (by decide)) ?_
  obtain ⟨g4, rfl⟩ := St.rsome HS (i := 1) rfl (by omega)
  refine qs (.pointer (some ⟨g4, (i / 64).toNat, none⟩)) (by kernel_rfl) (R_index1 (k := .i64) (g := g4) (n := ws.length) (c := c) (i := i / 64) (by kernel_rfl) (by kernel_rfl) Tryd.underlying75 (by kernel_rfl) (by omega) (by omega)) ?_
  refine qs (.int .u64 (rdI ws (i / 64))) (by kernel_rfl) (R_load (p := ⟨g4, (i / 64).toNat, none⟩) (by kernel_rfl) (by kernel_rfl) (by kernel_rfl) (HS.rcell (i := 1) rfl (ci_rd (i := i / 64) (by omega) (by omega)))) ?_
  refine qs (.int .i64 i) (by kernel_rfl) (by kernel_rfl) ?_
  refine qs (.int .i64 (i % 64)) (by kernel_rfl) (R_rem2 (by kernel_rfl) (by kernel_rfl) (by omega) (by omega) (by decide)) ?_
  refine qs (.int .u64 (shlW 1 (i % 64))) (by kernel_rfl) (R_shl (k2 := .i64) (by kernel_rfl) (by kernel_rfl) (u_lit 1 (by decide)) (by omega) (by omega)) ?_
  refine qs (.int .u64 (orW (rdI ws (i / 64)) (shlW 1 (i % 64)))) (by kernel_rfl) (R_or (by kernel_rfl) (by kernel_rfl) (hR.rd_at h0 h1) u_shl) ?_
  refine qs (.pointer (some ⟨g4, (i / 64).toNat, none⟩)) (by kernel_rfl) (R_index1 (k := .i64) (g := g4) (n := ws.length) (c := c) (i := i / 64) (by kernel_rfl) (by kernel_rfl) Tryd.underlying75 (by kernel_rfl) (by omega) (by omega)) ?_
  refine wpStill_nil ?_
  refine kr (v := .int .u64 (orW (rdI ws (i / 64)) (shlW 1 (i % 64)))) HS 1 rfl ((i / 64).toNat) [.int .u64 (orW (rdI ws (i / 64)) (shlW 1 (i % 64)))] (by kernel_rfl) (by kernel_rfl) (by kernel_rfl) (by kernel_rfl) (by kernel_rfl) (one_ (by kernel_rfl)) (by rw [ci_len]; first | omega | (simp only [List.length_singleton]; omega)) rfl ?_
  intro W5 H_
  obtain ⟨xs6, xs6_⟩ : ∃ z_ : List Int, z_ = (ws).set (i / 64).toNat (orW (rdI ws (i / 64)) (shlW 1 (i % 64))) := ⟨_, rfl⟩
  replace HS : St W M W5 [blk g [.slice (some ⟨g4, 0, none⟩) ws.length c, .int .i64 n] 77, row (some ⟨g4, 0, none⟩) ws.length c (ci .u64 xs6) 74 1] := H_.cast_ (by rw [xs6_, ← ci_set]; rfl)
  clear H_
  have xs6l : xs6.length = ws.length := by rw [xs6_, List.length_set]; first | done | omega
  refine wpList_nil ?_
  refine x_then ?_
  refine wp_seq ?_
  refine wp_region_lit ?_
  refine ql (.bool true) (by kernel_rfl) (by kernel_rfl) ?_
  refine wpList_nil ?_
  refine x_then ?_
  refine wp_ret ?_
  refine ret_ (.bool true) (by kernel_rfl) ?_
  have hq : Rep xs6 n (ins i L) := by rw [xs6_]; exact hR.add h0 h1 hi
  rw [← xs6l] at HS
  exact ⟨xs6, rfl, HS, hq⟩

set_option maxRecDepth 100000 in
set_option maxHeartbeats 1000000 in
theorem dadd_old (g c : Nat) (A : Option Addr) (ws : List Int) (n : Int) (L : List Int) (i : Int) (W : World) (M : Nat → Prop) (HS : St W M W [blk g [.slice A ws.length c, .int .i64 n] 77, row A ws.length c (ci .u64 ws) 74 1]) (hR : Rep ws n L) (hn : n ≤ 1048576) (hi : i ∈ L) : Calls Tryd.prog 18 #[.pointer (some ⟨g, 0, none⟩), .int .i64 i] W fun e W' => e = .returned (.bool false) ∧ St W M W' [blk g [.slice A ws.length c, .int .i64 n] 77, row A ws.length c (ci .u64 ws) 74 1] := by
  refine calls_enter [.pointer (some ⟨g, 0, none⟩), .int .i64 i, undef, undef, undef, undef, undef, undef, undef, undef, undef, undef, undef, undef, undef, undef, undef, undef, undef, undef, undef, undef, undef, undef, undef, undef, undef] Tryd.func18 rfl (by kernel_rfl) ?_
  refine wp_seq ?_
  refine wp_region_lit ?_
  refine ql (.bool false) (by kernel_rfl) (by kernel_rfl) ?_
  refine wpList_nil ?_
  refine x_then ?_
  refine wp_seq ?_
  refine wp_seq ?_
  refine wp_region_lit ?_
  refine ql (.pointer (some ⟨g, 0, none⟩)) (by kernel_rfl) (by kernel_rfl) ?_
  refine ql (.int .i64 i) (by kernel_rfl) (by kernel_rfl) ?_
  refine qc (f := 45) (args := #[.pointer (some ⟨g, 0, none⟩), .int .i64 i]) (by kernel_rfl) (R_call #[.pointer (some ⟨g, 0, none⟩), .int .i64 i] Tryd.func45 (by kernel_rfl) (by kernel_rfl) (by kernel_rfl)) ?_
  refine (dis_t _ _ i _ (HS.cell (i := 0) (j := 1) rfl rfl) (hR.lim i hi).1 (hR.lim i hi).2).mono ?_
  rintro e W1 ⟨rfl, H_⟩
  refine ⟨_, rfl, ?_⟩
  replace HS : St W M W1 [blk g [.slice A ws.length c, .int .i64 n] 77, row A ws.length c (ci .u64 ws) 74 1] := HS.join (F := []) (G := []) H_
  clear H_
  refine ql (.bool false) (by kernel_rfl) (by kernel_rfl) ?_
  refine ql (.bool false) (by kernel_rfl) (by kernel_rfl) ?_
  refine ql (.pointer (some ⟨g, 0, none⟩)) (by kernel_rfl) (by kernel_rfl) ?_
  refine ql (.int .i64 i) (by kernel_rfl) (by kernel_rfl) ?_
  refine qc (f := 19) (args := #[.pointer (some ⟨g, 0, none⟩), .int .i64 i]) (by kernel_rfl) (R_call #[.pointer (some ⟨g, 0, none⟩), .int .i64 i] Tryd.func19 (by kernel_rfl) (by kernel_rfl) (by kernel_rfl)) ?_
  refine (dhas_t g c A ws n L i _ (HS.cell (i := 0) (j := 0) rfl rfl) (HS.cell (i := 0) (j := 1) rfl rfl) (Rd.row HS (i := 1) rfl) hR hn hi).mono ?_
  rintro e W2 ⟨rfl, H_⟩
  refine ⟨_, rfl, ?_⟩
  replace HS : St W M W2 [blk g [.slice A ws.length c, .int .i64 n] 77, row A ws.length c (ci .u64 ws) 74 1] := HS.join (F := []) (G := []) H_
  clear H_
  refine ql (.bool true) (by kernel_rfl) (by kernel_rfl) ?_
  refine wpList_nil ?_
  refine x_then ?_
  refine wp_cond_true (by kernel_rfl) ?_
  refine wp_seq ?_
  refine wp_region_lit ?_
  refine ql (.bool false) (by kernel_rfl) (by kernel_rfl) ?_
  refine wpList_nil ?_
  refine x_then ?_
  refine wp_ret ?_
  refine x_thenR ?_
  refine ret_ (.bool false) (by kernel_rfl) ?_
  exact ⟨rfl, HS⟩

set_option maxRecDepth 100000 in
set_option maxHeartbeats 1000000 in
theorem dadd_out (g c : Nat) (A : Option Addr) (ws : List Int) (n : Int) (L : List Int) (i : Int) (W : World) (M : Nat → Prop) (HS : St W M W [blk g [.slice A ws.length c, .int .i64 n] 77, row A ws.length c (ci .u64 ws) 74 1]) (hR : Rep ws n L) (hn : n ≤ 1048576) (ho : i < 0 ∨ n ≤ i) : Calls Tryd.prog 18 #[.pointer (some ⟨g, 0, none⟩), .int .i64 i] W fun e W' => e = .returned (.bool false) ∧ St W M W' [blk g [.slice A ws.length c, .int .i64 n] 77, row A ws.length c (ci .u64 ws) 74 1] := by
  refine calls_enter [.pointer (some ⟨g, 0, none⟩), .int .i64 i, undef, undef, undef, undef, undef, undef, undef, undef, undef, undef, undef, undef, undef, undef, undef, undef, undef, undef, undef, undef, undef, undef, undef, undef, undef] Tryd.func18 rfl (by kernel_rfl) ?_
  refine wp_seq ?_
  refine wp_region_lit ?_
  refine ql (.bool false) (by kernel_rfl) (by kernel_rfl) ?_
  refine wpList_nil ?_
  refine x_then ?_
  refine wp_seq ?_
  refine wp_seq ?_
  refine wp_region_lit ?_
  refine ql (.pointer (some ⟨g, 0, none⟩)) (by kernel_rfl) (by kernel_rfl) ?_
  refine ql (.int .i64 i) (by kernel_rfl) (by kernel_rfl) ?_
  refine qc (f := 45) (args := #[.pointer (some ⟨g, 0, none⟩), .int .i64 i]) (by kernel_rfl) (R_call #[.pointer (some ⟨g, 0, none⟩), .int .i64 i] Tryd.func45 (by kernel_rfl) (by kernel_rfl) (by kernel_rfl)) ?_
  refine (dis_f _ _ i _ (HS.cell (i := 0) (j := 1) rfl rfl) ho).mono ?_
  rintro e W1 ⟨rfl, H_⟩
  refine ⟨_, rfl, ?_⟩
  replace HS : St W M W1 [blk g [.slice A ws.length c, .int .i64 n] 77, row A ws.length c (ci .u64 ws) 74 1] := HS.join (F := []) (G := []) H_
  clear H_
  refine ql (.bool true) (by kernel_rfl) (by kernel_rfl) ?_
  refine ql (.bool true) (by kernel_rfl) (by kernel_rfl) ?_
  refine qln (by kernel_rfl) ?_
  refine qln (by kernel_rfl) ?_
  refine qln (by kernel_rfl) ?_
  refine ql (.bool true) (by kernel_rfl) (by kernel_rfl) ?_
  refine wpList_nil ?_
  refine x_then ?_
  refine wp_cond_true (by kernel_rfl) ?_
  refine wp_seq ?_
  refine wp_region_lit ?_
  refine ql (.bool false) (by kernel_rfl) (by kernel_rfl) ?_
  refine wpList_nil ?_
  refine x_then ?_
  refine wp_ret ?_
  refine x_thenR ?_
  refine ret_ (.bool false) (by kernel_rfl) ?_
  exact ⟨rfl, HS⟩


theorem TabAt64.old {W0 W : World} {M : Nat → Prop} {L : List Ent} (h : TabAt64 W0) (HS : St W0 M W L) (h0 : 0 < W0.heap.size) (hm : ¬ M 0) : TabAt64 W := fun j hj => by
  have h1 := h j hj
  unfold World.cell? at h1 ⊢
  rw [HS.kept.block 0 h0 hm]
  exact h1
theorem TabAt64.pos {W : World} (h : TabAt64 W) : 0 < W.heap.size := by
  have h1 := h 0 (by decide)
  unfold World.cell? at h1
  refine Nat.pos_of_ne_zero fun e => ?_
  have hn : W.heap[0]? = none := by rw [Array.getElem?_eq_none_iff]; omega
  rw [hn] at h1; simp at h1
theorem TabAt64.old0 {W0 W : World} {L : List Ent} (h : TabAt64 W0) (HS : St W0 (owns []) W L) : TabAt64 W := h.old HS h.pos (by rintro ⟨e, he, _⟩; cases he)

theorem TabAt64.put {W : World} {l : Nat} {o o' : Obj} (h : TabAt64 W) (hl : W.heap[l]? = some o) (ho : o.isCells = false) : TabAt64 (W.putObj l o') := fun j hj => by
  have hp := h j hj
  obtain ⟨o2, h2, h3⟩ := cells_of_cell hp
  refine (World.cell?_of_block (World.putObj_heap_other (fun e => ?_))).trans hp
  rw [e, hl] at h2; cases h2; rw [ho] at h3; cases h3
theorem TabAt64.below {W W' : World} (h : TabAt64 W) (hb : Below W.heap.size W W') : TabAt64 W' := fun j hj => (hb.cell (World.block_lt_of_cell? W _ (h j hj))).trans (h j hj)
/-- What the iterator over a set reads. -/
def DnT (b g c : Nat) (A : Option Addr) (ws : List Int) (n : Int) (W : World) : Prop := DnI b g c A ws n W ∧ TabAt64 W
theorem DnT.below {b g c : Nat} {A : Option Addr} {ws : List Int} {n : Int} {W W' : World} (h : DnT b g c A ws n W) (hb : Below W.heap.size W W') : DnT b g c A ws n W' := ⟨h.1.tail_ hb, h.2.below hb⟩
theorem DnT.put {b g c : Nat} {A : Option Addr} {ws : List Int} {n : Int} {W : World} {l : Nat} {o o' : Obj} (h : DnT b g c A ws n W) (hl : W.heap[l]? = some o) (ho : o.isCells = false) : DnT b g c A ws n (W.putObj l o') := ⟨h.1.put hl ho, h.2.put hl ho⟩
def DnK (b g c : Nat) (A : Option Addr) (ws : List Int) (n : Int) (W W' : World) : Prop := DnT b g c A ws n W → DnT b g c A ws n W'

theorem DnK.of {b g c : Nat} {A : Option Addr} {ws : List Int} {n : Int} {W X Y : World} (h : DnT b g c A ws n W) (hb : Below W.heap.size X Y) : DnK b g c A ws n X Y := fun ⟨⟨p1, p2, p3, p4⟩, p5⟩ =>
  ⟨⟨(hb.cell (World.block_lt_of_cell? W _ h.1.hb)).trans p1, (hb.cell (World.block_lt_of_cell? W _ h.1.h0)).trans p2, (hb.cell (World.block_lt_of_cell? W _ h.1.h1)).trans p3, fun j v hv => by
    obtain ⟨ad, e, hc⟩ := p4 j v hv
    obtain ⟨ad2, e2, hc2⟩ := h.1.hr j v hv
    rw [e] at e2; cases e2
    exact ⟨ad, e, (hb.cell (World.block_lt_of_cell? W _ hc2)).trans hc⟩⟩, fun j hj => (hb.cell (World.block_lt_of_cell? W _ (h.2 j hj))).trans (p5 j hj)⟩
def DnN (b : Nat) (W : World) : Prop := W.cell? ⟨b, 0, none⟩ = some (.pointer none)
theorem DnN.below {b : Nat} {W W' : World} (h : DnN b W) (hb : Below W.heap.size W W') : DnN b W' := (hb.cell (World.block_lt_of_cell? W _ h)).trans h
def DnNK (b : Nat) (W W' : World) : Prop := DnN b W → DnN b W'
theorem DnNK.of {b : Nat} {W X Y : World} (h : DnN b W) (hb : Below W.heap.size X Y) : DnNK b X Y := fun p => (hb.cell (World.block_lt_of_cell? W _ h)).trans p


theorem dhasd (g c : Nat) (A : Option Addr) (ws : List Int) (n : Int) (L : List Int) (i : Int) (W : World) (hz0 : W.cell? ⟨g, 0, none⟩ = some (.slice A ws.length c)) (hz1 : W.cell? ⟨g, 1, none⟩ = some (.int .i64 n)) (hr : Rd W A (ci .u64 ws)) (hR : Rep ws n L) (hn : n ≤ 1048576) : Calls Tryd.prog 19 #[.pointer (some ⟨g, 0, none⟩), .int .i64 i] W fun e W' => e = .returned (.bool (decide (i ∈ L))) ∧ St W (owns []) W' [] := by
  by_cases hi : i ∈ L
  · rw [decide_eq_true hi]; exact dhas_t g c A ws n L i W hz0 hz1 hr hR hn hi
  · rw [decide_eq_false hi]; exact dhas_n g c A ws n L i W hz0 hz1 hr hR hn hi


theorem daddu (g c : Nat) (A : Option Addr) (ws : List Int) (n : Int) (L : List Int) (i : Int) (W : World) (M : Nat → Prop) (HS : St W M W [blk g [.slice A ws.length c, .int .i64 n] 77, row A ws.length c (ci .u64 ws) 74 1]) (hR : Rep ws n L) (hn : n ≤ 1048576) : Calls Tryd.prog 18 #[.pointer (some ⟨g, 0, none⟩), .int .i64 i] W fun e W' => ∃ ws', e = .returned (.bool (addB n L i)) ∧ St W M W' [blk g [.slice A ws'.length c, .int .i64 n] 77, row A ws'.length c (ci .u64 ws') 74 1] ∧ Rep ws' n (addL n L i) := by
  by_cases h : 0 ≤ i ∧ i < n
  · by_cases hi : i ∈ L
    · have ha := addL_out (n := n) (.inr (.inr hi))
      refine (dadd_old g c A ws n L i W M HS hR hn hi).mono ?_
      rintro e W' ⟨rfl, H⟩
      exact ⟨ws, by rw [ha.2], H, by rw [ha.1]; exact hR⟩
    · have ha := addL_in h.1 h.2 hi
      refine (dadd_new g c A ws n L i W M HS hR hn h.1 h.2 hi).mono ?_
      rintro e W' ⟨ws', rfl, H, h2⟩
      exact ⟨ws', by rw [ha.2], H, by rw [ha.1]; exact h2⟩
  · have ha := addL_out (n := n) (i := i) (L := L) (by omega)
    refine (dadd_out g c A ws n L i W M HS hR hn (by omega)).mono ?_
    rintro e W' ⟨rfl, H⟩
    exact ⟨ws, by rw [ha.2], H, by rw [ha.1]; exact hR⟩

open Go.Conc
set_option maxRecDepth 100000 in
set_option maxHeartbeats 1000000 in
theorem pputS_room (g c tb cap : Nat) (buf : List ByteArray) (v : ByteArray) (W : World) (M : Nat → Prop) (HS : St W M W [blk g [.chan (some c)] tb, chn c cap (buf.map fun n : ByteArray => Value.string n)]) (hroom : buf.length < cap) : Calls Tryd.prog 47 #[.pointer (some ⟨g, 0, none⟩), .string v] W fun e W' => e = .returned (.bool true) ∧ St W M W' [blk g [.chan (some c)] tb, chn c cap ((buf ++ [v]).map fun n : ByteArray => Value.string n)] := by
  have hcell := HS.cell (i := 0) (j := 0) rfl rfl
  obtain ⟨s, r, hc⟩ := HS.get (i := 1) rfl
  refine calls_of_loneTo (fun cs => ?_) (by rintro _ ⟨h, _⟩; cases h)
  have e : Frame.enter Tryd.prog 47 #[.pointer (some ⟨g, 0, none⟩), .string v] .normal = (base 47).at ⟨#[.pointer (some ⟨g, 0, none⟩), .string v, undef, undef, undef, undef, undef, undef, undef, undef, undef, undef, undef, undef, undef], []⟩ [.code (Tryd.f47.body.getD .skip)] := by
    simp [Frame.enter, Frame.at, Tryd.func47, base, Tryd.f47] <;> rfl
  rw [e]
  refine LoneTo.goes (n := 25) ?_
  simp only [Tryd.f47, Option.getD_some]
  s_c stepG_seq
  s_reg
  s_op
  s_c stepG_region_end
  s_c stepG_seq
  s_c stepG_seq
  s_reg
  s_op
  s_op
  s_c stepG_region_end
  s_cond false
  s_c stepG_skip
  s_c stepG_seq
  s_c stepG_seq
  s_reg
  s_op
  s_op
  s_op
  s_op
  s_c stepG_region_end
  s_reg
  s_op
  s_c stepG_region_end
  s_c stepG_seq
  s_reg
  s_stop
  refine LoneTo.step (step_lone_select_send_room (c := c) (cap := cap) (buf := (buf.map fun n : ByteArray => Value.string n).toArray) (s := s) (r := r) (tm := false) (stepG_comm (cases := #[scase c (.string v) (.string ⟨#[]⟩)]) (blocking := false) (shape := .select) (w' := W) rfl rfl (by decide) (by simp [go_sem, execOp, scase, Act.eval])) hc (by simpa using hroom)) ?_
  rw [Frame.finish_at]
  walk_nrm
  refine LoneTo.goes (n := 10) ?_
  s_op
  s_op
  s_c stepG_region_end
  s_c stepG_block
  s_cond true
  s_c stepG_seq
  s_reg
  s_op
  s_c stepG_region_end
  s_c stepG_ret'
  s_stop
  refine LoneTo.done ⟨.returned (.bool true), _, rfl, ⟨rfl, ?_⟩, rfl, rfl, rfl, rfl, _, Tryd.func47, by simp [results, Tryd.f47, Frame.at]⟩
  have h9 := HS.setChan (i := 1) rfl (((buf ++ [v]).map fun n : ByteArray => Value.string n)) (s + 1) r
  simpa using h9

set_option maxRecDepth 100000 in
set_option maxHeartbeats 1000000 in
theorem pputS_full (g c tb cap : Nat) (buf : List ByteArray) (v : ByteArray) (W : World) (M : Nat → Prop) (HS : St W M W [blk g [.chan (some c)] tb, chn c cap (buf.map fun n : ByteArray => Value.string n)]) (hfull : cap ≤ buf.length) : Calls Tryd.prog 47 #[.pointer (some ⟨g, 0, none⟩), .string v] W fun e W' => e = .returned (.bool false) ∧ St W M W' [blk g [.chan (some c)] tb, chn c cap (buf.map fun n : ByteArray => Value.string n)] := by
  have hcell := HS.cell (i := 0) (j := 0) rfl rfl
  obtain ⟨s, r, hc⟩ := HS.get (i := 1) rfl
  refine calls_of_loneTo (fun cs => ?_) (by rintro _ ⟨h, _⟩; cases h)
  have e : Frame.enter Tryd.prog 47 #[.pointer (some ⟨g, 0, none⟩), .string v] .normal = (base 47).at ⟨#[.pointer (some ⟨g, 0, none⟩), .string v, undef, undef, undef, undef, undef, undef, undef, undef, undef, undef, undef, undef, undef], []⟩ [.code (Tryd.f47.body.getD .skip)] := by
    simp [Frame.enter, Frame.at, Tryd.func47, base, Tryd.f47] <;> rfl
  rw [e]
  refine LoneTo.goes (n := 25) ?_
  simp only [Tryd.f47, Option.getD_some]
  s_c stepG_seq
  s_reg
  s_op
  s_c stepG_region_end
  s_c stepG_seq
  s_c stepG_seq
  s_reg
  s_op
  s_op
  s_c stepG_region_end
  s_cond false
  s_c stepG_skip
  s_c stepG_seq
  s_c stepG_seq
  s_reg
  s_op
  s_op
  s_op
  s_op
  s_c stepG_region_end
  s_reg
  s_op
  s_c stepG_region_end
  s_c stepG_seq
  s_reg
  s_stop
  refine LoneTo.step (step_lone_select_send_full (c := c) (cap := cap) (buf := (buf.map fun n : ByteArray => Value.string n).toArray) (s := s) (r := r) (tm := false) (stepG_comm (cases := #[scase c (.string v) (.string ⟨#[]⟩)]) (blocking := false) (shape := .select) (w' := W) rfl rfl (by decide) (by simp [go_sem, execOp, scase, Act.eval])) hc (by simpa using hfull)) ?_
  rw [Frame.finish_at]
  walk_nrm
  refine LoneTo.goes (n := 10) ?_
  s_op
  s_op
  s_c stepG_region_end
  s_c stepG_block
  s_cond false
  s_c stepG_seq
  s_reg
  s_op
  s_c stepG_region_end
  s_c stepG_ret'
  s_stop
  exact LoneTo.done ⟨.returned (.bool false), _, rfl, ⟨rfl, HS⟩, rfl, rfl, rfl, rfl, _, Tryd.func47, by simp [results, Tryd.f47, Frame.at]⟩

set_option maxRecDepth 100000 in
set_option maxHeartbeats 1000000 in
theorem pgetS_some (g c tb cap : Nat) (buf : List ByteArray) (v : ByteArray) (W : World) (M : Nat → Prop) (HS : St W M W [blk g [.chan (some c)] tb, chn c cap ((v :: buf).map fun n : ByteArray => Value.string n)]) : Calls Tryd.prog 48 #[.pointer (some ⟨g, 0, none⟩)] W fun e W' => e = .returned (.tuple #[.string v, .bool true]) ∧ St W M W' [blk g [.chan (some c)] tb, chn c cap (buf.map fun n : ByteArray => Value.string n)] := by
  have hcell := HS.cell (i := 0) (j := 0) rfl rfl
  obtain ⟨s, r, hc⟩ := HS.get (i := 1) rfl
  refine calls_of_loneTo (fun cs => ?_) (by rintro _ ⟨h, _⟩; cases h)
  have e : Frame.enter Tryd.prog 48 #[.pointer (some ⟨g, 0, none⟩)] .normal = (base 48).at ⟨#[.pointer (some ⟨g, 0, none⟩), undef, undef, undef, undef, undef, undef, undef, undef, undef, undef, undef, undef, undef, undef, undef, undef, undef, undef], []⟩ [.code (Tryd.f48.body.getD .skip)] := by
    simp [Frame.enter, Frame.at, Tryd.func48, base, Tryd.f48] <;> rfl
  rw [e]
  refine LoneTo.goes (n := 26) ?_
  simp only [Tryd.f48, Option.getD_some]
  s_c stepG_seq
  s_reg
  s_op
  s_op
  s_c stepG_region_end
  s_c stepG_seq
  s_reg
  s_op
  s_c stepG_region_end
  s_c stepG_seq
  s_c stepG_seq
  s_reg
  s_op
  s_op
  s_c stepG_region_end
  s_cond false
  s_c stepG_skip
  s_c stepG_seq
  s_reg
  s_op
  s_op
  s_op
  s_op
  s_c stepG_region_end
  s_c stepG_seq
  s_reg
  s_stop
  refine LoneTo.step (step_lone_select_recv_buf (c := c) (cap := cap) (buf := ((v :: buf).map fun n : ByteArray => Value.string n).toArray) (s := s) (r := r) (tm := false) (stepG_comm (cases := #[rcase c (.string ⟨#[]⟩)]) (blocking := false) (shape := .select) (w' := W) rfl rfl (by decide) (by simp [go_sem, execOp, rcase, Act.eval])) hc (by simp)) ?_
  rw [Frame.finish_at]
  walk_nrm
  refine LoneTo.goes (n := 17) ?_
  s_op
  s_op
  s_c stepG_region_end
  s_c stepG_block
  s_cond true
  s_c stepG_seq
  s_reg
  s_op
  s_op
  s_c stepG_region_end
  s_c stepG_seq
  s_reg
  s_op
  s_op
  s_op
  s_c stepG_region_end
  s_c stepG_ret'
  s_stop
  refine LoneTo.done ⟨.returned (.tuple #[.string v, .bool true]), _, rfl, ⟨rfl, ?_⟩, rfl, rfl, rfl, rfl, _, Tryd.func48, by simp [results, Tryd.f48, Frame.at]⟩
  have h9 := HS.setChan (i := 1) rfl ((buf.map fun n : ByteArray => Value.string n)) s (r + 1)
  have ht : List.take buf.length (buf.map fun n : ByteArray => Value.string n) = (buf.map fun n : ByteArray => Value.string n) := List.take_of_length_le (by simp)
  simpa [ht] using h9

set_option maxRecDepth 100000 in
set_option maxHeartbeats 1000000 in
theorem pgetP_none (g c tb cap : Nat) (W : World) (M : Nat → Prop) (HS : St W M W [blk g [.chan (some c)] tb, chn c cap []]) : Calls Tryd.prog 39 #[.pointer (some ⟨g, 0, none⟩)] W fun e W' => e = .returned (.tuple #[.pointer none, .bool false]) ∧ St W M W' [blk g [.chan (some c)] tb, chn c cap []] := by
  have hcell := HS.cell (i := 0) (j := 0) rfl rfl
  obtain ⟨s, r, hc⟩ := HS.get (i := 1) rfl
  refine calls_of_loneTo (fun cs => ?_) (by rintro _ ⟨h, _⟩; cases h)
  have e : Frame.enter Tryd.prog 39 #[.pointer (some ⟨g, 0, none⟩)] .normal = (base 39).at ⟨#[.pointer (some ⟨g, 0, none⟩), undef, undef, undef, undef, undef, undef, undef, undef, undef, undef, undef, undef, undef, undef, undef, undef, undef, undef], []⟩ [.code (Tryd.f39.body.getD .skip)] := by
    simp [Frame.enter, Frame.at, Tryd.func39, base, Tryd.f39] <;> rfl
  rw [e]
  refine LoneTo.goes (n := 26) ?_
  simp only [Tryd.f39, Option.getD_some]
  s_c stepG_seq
  s_reg
  s_op
  s_op
  s_c stepG_region_end
  s_c stepG_seq
  s_reg
  s_op
  s_c stepG_region_end
  s_c stepG_seq
  s_c stepG_seq
  s_reg
  s_op
  s_op
  s_c stepG_region_end
  s_cond false
  s_c stepG_skip
  s_c stepG_seq
  s_reg
  s_op
  s_op
  s_op
  s_op
  s_c stepG_region_end
  s_c stepG_seq
  s_reg
  s_stop
  refine LoneTo.step (step_lone_select_default (c := c) (cap := cap) (s := s) (r := r) (tm := false) (stepG_comm (cases := #[rcase c (.pointer none)]) (blocking := false) (shape := .select) (w' := W) rfl rfl (by decide) (by simp [go_sem, execOp, rcase, Act.eval])) (by simpa using hc)) ?_
  rw [Frame.finish_at]
  walk_nrm
  refine LoneTo.goes (n := 12) ?_
  s_op
  s_op
  s_c stepG_region_end
  s_c stepG_block
  s_cond false
  s_c stepG_seq
  s_reg
  s_op
  s_op
  s_op
  s_c stepG_region_end
  s_c stepG_ret'
  s_stop
  exact LoneTo.done ⟨.returned (.tuple #[.pointer none, .bool false]), _, rfl, ⟨rfl, HS⟩, rfl, rfl, rfl, rfl, _, Tryd.func39, by simp [results, Tryd.f39, Frame.at]⟩


set_option maxRecDepth 100000 in
set_option maxHeartbeats 1000000 in
theorem plenS (g c cap : Nat) (xs : List ByteArray) (W : World) (hcell : W.cell? ⟨g, 0, none⟩ = some (.chan (some c))) (hbuf : (chn c cap (xs.map fun n : ByteArray => Value.string n)).P W) (hc : cap ≤ 65536) (hl : xs.length ≤ cap) : Calls Tryd.prog 49 #[.pointer (some ⟨g, 0, none⟩)] W fun e W' => e = .returned (.int .i64 (xs.length : Int)) ∧ St W (owns []) W' [] := by
  have HS : St W (owns []) W [] := St.start W _
  refine calls_enter [.pointer (some ⟨g, 0, none⟩), undef, undef, undef, undef, undef, undef, undef, undef, undef] Tryd.func49 rfl (by kernel_rfl) ?_
  refine wp_seq ?_
  refine wp_region_lit ?_
  refine ql (.int .i64 0) (by kernel_rfl) (by kernel_rfl) ?_
  refine wpList_nil ?_
  refine x_then ?_
  refine wp_seq ?_
  refine wp_seq ?_
  refine wp_region_lit ?_
  refine ql (.pointer (some ⟨g, 0, none⟩)) (by kernel_rfl) (by kernel_rfl) ?_
  refine ql (.bool false) (by kernel_rfl) (by kernel_rfl) ?_
  refine wpList_nil ?_
  refine x_then ?_
  refine wp_cond_false (by kernel_rfl) ?_
  refine wp_skip ?_
  refine x_then ?_
  refine wp_seq ?_
  refine wp_region_lit ?_
  refine ql (.pointer (some ⟨g, 0, none⟩)) (by kernel_rfl) (by kernel_rfl) ?_
  refine ql (.pointer (some ⟨g, 0, none⟩)) (by kernel_rfl) (by kernel_rfl) ?_
  refine ql (.pointer (some ⟨g, 0, none⟩)) (by kernel_rfl) (by kernel_rfl) ?_
  refine ql (.chan (some c)) (by kernel_rfl) (R_load (p := ⟨g, 0, none⟩) (by kernel_rfl) (by kernel_rfl) (by kernel_rfl) (HS.old0 hcell)) ?_
  refine ql (.int .i64 (xs.length : Int)) (by kernel_rfl) (R_eq (R_lenC (chn_k HS.kept.nil hbuf) (by kernel_rfl) Tryd.underlying96) (by rw [List.length_map])) ?_
  refine ql (.int .i64 (xs.length : Int)) (by kernel_rfl) (by kernel_rfl) ?_
  refine wpList_nil ?_
  refine x_then ?_
  refine wp_ret ?_
  refine ret_ (.int .i64 (xs.length : Int)) (by kernel_rfl) ?_
  exact ⟨rfl, HS⟩

set_option maxRecDepth 100000 in
set_option maxHeartbeats 1000000 in
theorem proomS (g c cap : Nat) (xs : List ByteArray) (W : World) (hcell : W.cell? ⟨g, 0, none⟩ = some (.chan (some c))) (hbuf : (chn c cap (xs.map fun n : ByteArray => Value.string n)).P W) (hc : cap ≤ 65536) (hl : xs.length ≤ cap) : Calls Tryd.prog 50 #[.pointer (some ⟨g, 0, none⟩)] W fun e W' => e = .returned (.int .i64 ((cap : Int) - (xs.length : Int))) ∧ St W (owns []) W' [] := by
  have HS : St W (owns []) W [] := St.start W _
  refine calls_enter [.pointer (some ⟨g, 0, none⟩), undef, undef, undef, undef, undef, undef, undef, undef, undef, undef, undef, undef, undef, undef, undef] Tryd.func50 rfl (by kernel_rfl) ?_
  refine wp_seq ?_
  refine wp_region_lit ?_
  refine ql (.int .i64 0) (by kernel_rfl) (by kernel_rfl) ?_
  refine wpList_nil ?_
  refine x_then ?_
  refine wp_seq ?_
  refine wp_seq ?_
  refine wp_region_lit ?_
  refine ql (.pointer (some ⟨g, 0, none⟩)) (by kernel_rfl) (by kernel_rfl) ?_
  refine ql (.bool false) (by kernel_rfl) (by kernel_rfl) ?_
  refine wpList_nil ?_
  refine x_then ?_
  refine wp_cond_false (by kernel_rfl) ?_
  refine wp_skip ?_
  refine x_then ?_
  refine wp_seq ?_
  refine rg_still HS 11 (by kernel_rfl) (by kernel_rfl) ?_
  intro W1 H_ HK_
  simp only [List.take_succ_cons, List.take_zero, List.drop_succ_cons, List.drop_zero]
  replace HS : St W (owns []) W1 [] := H_
  clear H_
  clear HK_
  refine qs (.pointer (some ⟨g, 0, none⟩)) (by kernel_rfl) (by kernel_rfl) ?_
  refine qs (.pointer (some ⟨g, 0, none⟩)) (by kernel_rfl) (by kernel_rfl) ?_
  refine qs (.pointer (some ⟨g, 0, none⟩)) (by kernel_rfl) (by kernel_rfl) ?_
  refine qs (.chan (some c)) (by kernel_rfl) (R_load (p := ⟨g, 0, none⟩) (by kernel_rfl) (by kernel_rfl) (by kernel_rfl) (HS.old0 hcell)) ?_
  refine qs (.int .i64 (cap : Int)) (by kernel_rfl) (R_capC (chn_k HS.kept.nil hbuf) (by kernel_rfl) Tryd.underlying96) ?_
  refine qs (.pointer (some ⟨g, 0, none⟩)) (by kernel_rfl) (by kernel_rfl) ?_
  refine qs (.pointer (some ⟨g, 0, none⟩)) (by kernel_rfl) (by kernel_rfl) ?_
  refine qs (.pointer (some ⟨g, 0, none⟩)) (by kernel_rfl) (by kernel_rfl) ?_
  refine qs (.chan (some c)) (by kernel_rfl) (R_load (p := ⟨g, 0, none⟩) (by kernel_rfl) (by kernel_rfl) (by kernel_rfl) (HS.old0 hcell)) ?_
  refine qs (.int .i64 (xs.length : Int)) (by kernel_rfl) (R_eq (R_lenC (chn_k HS.kept.nil hbuf) (by kernel_rfl) Tryd.underlying96) (by rw [List.length_map])) ?_
  refine qs (.int .i64 ((cap : Int) - (xs.length : Int))) (by kernel_rfl) (R_int (by kernel_rfl) (w64 (by omega))) ?_
  refine wpStill_nil ?_
  refine ql (.int .i64 ((cap : Int) - (xs.length : Int))) (by kernel_rfl) (by kernel_rfl) ?_
  refine wpList_nil ?_
  refine x_then ?_
  refine wp_ret ?_
  refine ret_ (.int .i64 ((cap : Int) - (xs.length : Int))) (by kernel_rfl) ?_
  exact ⟨rfl, HS⟩

set_option maxRecDepth 100000 in
set_option maxHeartbeats 1000000 in
theorem plen_nil (W : World) : Calls Tryd.prog 11 #[.pointer none] W fun e W' => e = .returned (.int .i64 0) ∧ St W (owns []) W' [] := by
  have HS : St W (owns []) W [] := St.start W _
  refine calls_enter [.pointer none, undef, undef, undef, undef, undef, undef, undef, undef, undef] Tryd.func11 rfl (by kernel_rfl) ?_
  refine wp_seq ?_
  refine wp_region_lit ?_
  refine ql (.int .i64 0) (by kernel_rfl) (by kernel_rfl) ?_
  refine wpList_nil ?_
  refine x_then ?_
  refine wp_seq ?_
  refine wp_seq ?_
  refine wp_region_lit ?_
  refine ql (.pointer none) (by kernel_rfl) (by kernel_rfl) ?_
  refine ql (.bool true) (by kernel_rfl) (by kernel_rfl) ?_
  refine wpList_nil ?_
  refine x_then ?_
  refine wp_cond_true (by kernel_rfl) ?_
  refine wp_seq ?_
  refine wp_region_lit ?_
  refine ql (.int .i64 0) (by kernel_rfl) (by kernel_rfl) ?_
  refine wpList_nil ?_
  refine x_then ?_
  refine wp_ret ?_
  refine x_thenR ?_
  refine ret_ (.int .i64 0) (by kernel_rfl) ?_
  exact ⟨rfl, HS⟩

set_option maxRecDepth 100000 in
set_option maxHeartbeats 1000000 in
theorem proom_nil (W : World) : Calls Tryd.prog 12 #[.pointer none] W fun e W' => e = .returned (.int .i64 0) ∧ St W (owns []) W' [] := by
  have HS : St W (owns []) W [] := St.start W _
  refine calls_enter [.pointer none, undef, undef, undef, undef, undef, undef, undef, undef, undef, undef, undef, undef, undef, undef, undef] Tryd.func12 rfl (by kernel_rfl) ?_
  refine wp_seq ?_
  refine wp_region_lit ?_
  refine ql (.int .i64 0) (by kernel_rfl) (by kernel_rfl) ?_
  refine wpList_nil ?_
  refine x_then ?_
  refine wp_seq ?_
  refine wp_seq ?_
  refine wp_region_lit ?_
  refine ql (.pointer none) (by kernel_rfl) (by kernel_rfl) ?_
  refine ql (.bool true) (by kernel_rfl) (by kernel_rfl) ?_
  refine wpList_nil ?_
  refine x_then ?_
  refine wp_cond_true (by kernel_rfl) ?_
  refine wp_seq ?_
  refine wp_region_lit ?_
  refine ql (.int .i64 0) (by kernel_rfl) (by kernel_rfl) ?_
  refine wpList_nil ?_
  refine x_then ?_
  refine wp_ret ?_
  refine x_thenR ?_
  refine ret_ (.int .i64 0) (by kernel_rfl) ?_
  exact ⟨rfl, HS⟩

set_option maxRecDepth 100000 in
set_option maxHeartbeats 1000000 in
theorem proom (g c cap : Nat) (xs : List Int) (W : World) (hcell : W.cell? ⟨g, 0, none⟩ = some (.chan (some c))) (hbuf : (chn c cap (xs.map fun n : Int => Value.int .i64 n)).P W) (hc : cap ≤ 65536) (hl : xs.length ≤ cap) : Calls Tryd.prog 12 #[.pointer (some ⟨g, 0, none⟩)] W fun e W' => e = .returned (.int .i64 ((cap : Int) - (xs.length : Int))) ∧ St W (owns []) W' [] := by
  have HS : St W (owns []) W [] := St.start W _
  refine calls_enter [.pointer (some ⟨g, 0, none⟩), undef, undef, undef, undef, undef, undef, undef, undef, undef, undef, undef, undef, undef, undef, undef] Tryd.func12 rfl (by kernel_rfl) ?_
  refine wp_seq ?_
  refine wp_region_lit ?_
  refine ql (.int .i64 0) (by kernel_rfl) (by kernel_rfl) ?_
  refine wpList_nil ?_
  refine x_then ?_
  refine wp_seq ?_
  refine wp_seq ?_
  refine wp_region_lit ?_
  refine ql (.pointer (some ⟨g, 0, none⟩)) (by kernel_rfl) (by kernel_rfl) ?_
  refine ql (.bool false) (by kernel_rfl) (by kernel_rfl) ?_
  refine wpList_nil ?_
  refine x_then ?_
  refine wp_cond_false (by kernel_rfl) ?_
  refine wp_skip ?_
  refine x_then ?_
  refine wp_seq ?_
  refine rg_still HS 11 (by kernel_rfl) (by kernel_rfl) ?_
  intro W1 H_ HK_
  simp only [List.take_succ_cons, List.take_zero, List.drop_succ_cons, List.drop_zero]
  replace HS : St W (owns []) W1 [] := H_
  clear H_
  clear HK_
  refine qs (.pointer (some ⟨g, 0, none⟩)) (by kernel_rfl) (by kernel_rfl) ?_
  refine qs (.pointer (some ⟨g, 0, none⟩)) (by kernel_rfl) (by kernel_rfl) ?_
  refine qs (.pointer (some ⟨g, 0, none⟩)) (by kernel_rfl) (by kernel_rfl) ?_
  refine qs (.chan (some c)) (by kernel_rfl) (R_load (p := ⟨g, 0, none⟩) (by kernel_rfl) (by kernel_rfl) (by kernel_rfl) (HS.old0 hcell)) ?_
  refine qs (.int .i64 (cap : Int)) (by kernel_rfl) (R_capC (chn_k HS.kept.nil hbuf) (by kernel_rfl) Tryd.underlying61) ?_
  refine qs (.pointer (some ⟨g, 0, none⟩)) (by kernel_rfl) (by kernel_rfl) ?_
  refine qs (.pointer (some ⟨g, 0, none⟩)) (by kernel_rfl) (by kernel_rfl) ?_
  refine qs (.pointer (some ⟨g, 0, none⟩)) (by kernel_rfl) (by kernel_rfl) ?_
  refine qs (.chan (some c)) (by kernel_rfl) (R_load (p := ⟨g, 0, none⟩) (by kernel_rfl) (by kernel_rfl) (by kernel_rfl) (HS.old0 hcell)) ?_
  refine qs (.int .i64 (xs.length : Int)) (by kernel_rfl) (R_eq (R_lenC (chn_k HS.kept.nil hbuf) (by kernel_rfl) Tryd.underlying61) (by rw [List.length_map])) ?_
  refine qs (.int .i64 ((cap : Int) - (xs.length : Int))) (by kernel_rfl) (R_int (by kernel_rfl) (w64 (by omega))) ?_
  refine wpStill_nil ?_
  refine ql (.int .i64 ((cap : Int) - (xs.length : Int))) (by kernel_rfl) (by kernel_rfl) ?_
  refine wpList_nil ?_
  refine x_then ?_
  refine wp_ret ?_
  refine ret_ (.int .i64 ((cap : Int) - (xs.length : Int))) (by kernel_rfl) ?_
  exact ⟨rfl, HS⟩

set_option maxRecDepth 100000 in
set_option maxHeartbeats 1000000 in
theorem pget_nil (v : Int) (W : World) : Calls Tryd.prog 9 #[.pointer none] W fun e W' => e = .returned (.tuple #[.int .i64 0, .bool false]) ∧ St W (owns []) W' [] := by
  have HS : St W (owns []) W [] := St.start W _
  refine calls_enter [.pointer none, undef, undef, undef, undef, undef, undef, undef, undef, undef, undef, undef, undef, undef, undef, undef, undef, undef, undef] Tryd.func9 rfl (by kernel_rfl) ?_
  refine wp_seq ?_
  refine wp_region_lit ?_
  refine ql (.int .i64 0) (by kernel_rfl) (by kernel_rfl) ?_
  refine ql (.bool false) (by kernel_rfl) (by kernel_rfl) ?_
  refine wpList_nil ?_
  refine x_then ?_
  refine wp_seq ?_
  refine wp_region_lit ?_
  refine ql (.int .i64 0) (by kernel_rfl) (by kernel_rfl) ?_
  refine wpList_nil ?_
  refine x_then ?_
  refine wp_seq ?_
  refine wp_seq ?_
  refine wp_region_lit ?_
  refine ql (.pointer none) (by kernel_rfl) (by kernel_rfl) ?_
  refine ql (.bool true) (by kernel_rfl) (by kernel_rfl) ?_
  refine wpList_nil ?_
  refine x_then ?_
  refine wp_cond_true (by kernel_rfl) ?_
  refine wp_seq ?_
  refine wp_region_lit ?_
  refine ql (.int .i64 0) (by kernel_rfl) (by kernel_rfl) ?_
  refine ql (.int .i64 0) (by kernel_rfl) (by kernel_rfl) ?_
  refine ql (.bool false) (by kernel_rfl) (by kernel_rfl) ?_
  refine wpList_nil ?_
  refine x_then ?_
  refine wp_ret ?_
  refine x_thenR ?_
  refine ret_ (.tuple #[.int .i64 0, .bool false]) (by kernel_rfl) ?_
  exact ⟨rfl, HS⟩

set_option maxRecDepth 100000 in
set_option maxHeartbeats 1000000 in
theorem pput_nil (v : Int) (W : World) : Calls Tryd.prog 10 #[.pointer none, .int .i64 v] W fun e W' => e = .returned (.bool false) ∧ St W (owns []) W' [] := by
  have HS : St W (owns []) W [] := St.start W _
  refine calls_enter [.pointer none, .int .i64 v, undef, undef, undef, undef, undef, undef, undef, undef, undef, undef, undef, undef, undef] Tryd.func10 rfl (by kernel_rfl) ?_
  refine wp_seq ?_
  refine wp_region_lit ?_
  refine ql (.bool false) (by kernel_rfl) (by kernel_rfl) ?_
  refine wpList_nil ?_
  refine x_then ?_
  refine wp_seq ?_
  refine wp_seq ?_
  refine wp_region_lit ?_
  refine ql (.pointer none) (by kernel_rfl) (by kernel_rfl) ?_
  refine ql (.bool true) (by kernel_rfl) (by kernel_rfl) ?_
  refine wpList_nil ?_
  refine x_then ?_
  refine wp_cond_true (by kernel_rfl) ?_
  refine wp_seq ?_
  refine wp_region_lit ?_
  refine ql (.bool false) (by kernel_rfl) (by kernel_rfl) ?_
  refine wpList_nil ?_
  refine x_then ?_
  refine wp_ret ?_
  refine x_thenR ?_
  refine ret_ (.bool false) (by kernel_rfl) ?_
  exact ⟨rfl, HS⟩

set_option maxRecDepth 100000 in
set_option maxHeartbeats 1000000 in
theorem pnew_ok (cap : Nat) (W : World) (h0 : 1 ≤ cap) (h1 : cap ≤ 65536) : Calls Tryd.prog 8 #[.int .i64 (cap : Int)] W fun e W' => ∃ g c, e = .returned (.tuple #[.pointer (some ⟨g, 0, none⟩), .int .i64 0]) ∧ St W (owns []) W' [blk g [.chan (some c)] 63, chn c cap (([] : List Int).map fun n : Int => Value.int .i64 n)] := by
  have HS : St W (owns []) W [] := St.start W _
  refine calls_enter [.int .i64 (cap : Int), undef, undef, undef, undef, undef, undef, undef, undef, undef, undef, undef, undef, undef] Tryd.func8 rfl (by kernel_rfl) ?_
  refine wp_seq ?_
  refine wp_region_lit ?_
  refine ql (.pointer none) (by kernel_rfl) (by kernel_rfl) ?_
  refine ql (.int .i64 0) (by kernel_rfl) (by kernel_rfl) ?_
  refine wpList_nil ?_
  refine x_then ?_
  refine wp_seq ?_
  refine wp_block ?_
  refine wp_seq ?_
  refine wp_region_lit ?_
  refine ql (.int .i64 (cap : Int)) (by kernel_rfl) (by kernel_rfl) ?_
  refine ql (.bool false) (by kernel_rfl) (R_nbool (p := (cap : Int) < (1 : Int)) (by kernel_rfl) (by omega)) ?_
  refine ql (.bool false) (by kernel_rfl) (by kernel_rfl) ?_
  refine wpList_nil ?_
  refine x_then ?_
  refine wp_cond_false (by kernel_rfl) ?_
  refine wp_seq ?_
  refine wp_region_lit ?_
  refine ql (.int .i64 (cap : Int)) (by kernel_rfl) (by kernel_rfl) ?_
  refine ql (.bool false) (by kernel_rfl) (R_nbool (p := (cap : Int) > (65536 : Int)) (by kernel_rfl) (by omega)) ?_
  refine ql (.bool false) (by kernel_rfl) (by kernel_rfl) ?_
  refine wpList_nil ?_
  refine x_then ?_
  refine wp_cond_false (by kernel_rfl) ?_
  refine wp_skip ?_
  refine x_inb ?_
  refine x_then ?_
  refine wp_seq ?_
  refine wp_region_lit ?_
  refine ql (.int .i64 (cap : Int)) (by kernel_rfl) (by kernel_rfl) ?_
  refine kmc (b := 8) HS (cap) (by kernel_rfl) (k_eq (k := .i64) (m := (cap : Int)) (by kernel_rfl) (by omega)) Tryd.underlying61 (by kernel_rfl) (by omega) (by decide) ?_
  intro c1 W2 H_
  replace HS : St W (owns []) W2 [chn c1 cap (([] : List Int).map fun n : Int => Value.int .i64 n)] := H_.cast_ (by rfl)
  clear H_
  refine ql (.agg #[.chan (some c1)]) (by kernel_rfl) (by kernel_rfl) ?_
  refine kb HS [.chan (some c1)] 63 (fun g => .pointer (some ⟨g, 0, none⟩)) (by kernel_rfl) (by kernel_rfl) ?_
  intro g3 W4 H_
  replace HS : St W (owns []) W4 [blk g3 [.chan (some c1)] 63, chn c1 cap (([] : List Int).map fun n : Int => Value.int .i64 n)] := H_
  clear H_
  refine ql (.pointer (some ⟨g3, 0, none⟩)) (by kernel_rfl) (by kernel_rfl) ?_
  refine ql (.int .i64 0) (by kernel_rfl) (by kernel_rfl) ?_
  refine wpList_nil ?_
  refine x_then ?_
  refine wp_ret ?_
  refine ret_ (.tuple #[.pointer (some ⟨g3, 0, none⟩), .int .i64 0]) (by kernel_rfl) ?_
  exact ⟨_, _, rfl, HS⟩

set_option maxRecDepth 100000 in
set_option maxHeartbeats 1000000 in
theorem pnewS_ok (cap : Nat) (W : World) (h0 : 1 ≤ cap) (h1 : cap ≤ 65536) : Calls Tryd.prog 46 #[.int .i64 (cap : Int)] W fun e W' => ∃ g c, e = .returned (.tuple #[.pointer (some ⟨g, 0, none⟩), .int .i64 0]) ∧ St W (owns []) W' [blk g [.chan (some c)] 98, chn c cap (([] : List ByteArray).map fun n : ByteArray => Value.string n)] := by
  have HS : St W (owns []) W [] := St.start W _
  refine calls_enter [.int .i64 (cap : Int), undef, undef, undef, undef, undef, undef, undef, undef, undef, undef, undef, undef, undef] Tryd.func46 rfl (by kernel_rfl) ?_
  refine wp_seq ?_
  refine wp_region_lit ?_
  refine ql (.pointer none) (by kernel_rfl) (by kernel_rfl) ?_
  refine ql (.int .i64 0) (by kernel_rfl) (by kernel_rfl) ?_
  refine wpList_nil ?_
  refine x_then ?_
  refine wp_seq ?_
  refine wp_block ?_
  refine wp_seq ?_
  refine wp_region_lit ?_
  refine ql (.int .i64 (cap : Int)) (by kernel_rfl) (by kernel_rfl) ?_
  refine ql (.bool false) (by kernel_rfl) (R_nbool (p := (cap : Int) < (1 : Int)) (by kernel_rfl) (by omega)) ?_
  refine ql (.bool false) (by kernel_rfl) (by kernel_rfl) ?_
  refine wpList_nil ?_
  refine x_then ?_
  refine wp_cond_false (by kernel_rfl) ?_
  refine wp_seq ?_
  refine wp_region_lit ?_
  refine ql (.int .i64 (cap : Int)) (by kernel_rfl) (by kernel_rfl) ?_
  refine ql (.bool false) (by kernel_rfl) (R_nbool (p := (cap : Int) > (65536 : Int)) (by kernel_rfl) (by omega)) ?_
  refine ql (.bool false) (by kernel_rfl) (by kernel_rfl) ?_
  refine wpList_nil ?_
  refine x_then ?_
  refine wp_cond_false (by kernel_rfl) ?_
  refine wp_skip ?_
  refine x_inb ?_
  refine x_then ?_
  refine wp_seq ?_
  refine wp_region_lit ?_
  refine ql (.int .i64 (cap : Int)) (by kernel_rfl) (by kernel_rfl) ?_
  refine kmc (b := 16) HS (cap) (by kernel_rfl) (k_eq (k := .i64) (m := (cap : Int)) (by kernel_rfl) (by omega)) Tryd.underlying96 (by kernel_rfl) (by omega) (by decide) ?_
  intro c1 W2 H_
  replace HS : St W (owns []) W2 [chn c1 cap (([] : List ByteArray).map fun n : ByteArray => Value.string n)] := H_.cast_ (by rfl)
  clear H_
  refine ql (.agg #[.chan (some c1)]) (by kernel_rfl) (by kernel_rfl) ?_
  refine kb HS [.chan (some c1)] 98 (fun g => .pointer (some ⟨g, 0, none⟩)) (by kernel_rfl) (by kernel_rfl) ?_
  intro g3 W4 H_
  replace HS : St W (owns []) W4 [blk g3 [.chan (some c1)] 98, chn c1 cap (([] : List ByteArray).map fun n : ByteArray => Value.string n)] := H_
  clear H_
  refine ql (.pointer (some ⟨g3, 0, none⟩)) (by kernel_rfl) (by kernel_rfl) ?_
  refine ql (.int .i64 0) (by kernel_rfl) (by kernel_rfl) ?_
  refine wpList_nil ?_
  refine x_then ?_
  refine wp_ret ?_
  refine ret_ (.tuple #[.pointer (some ⟨g3, 0, none⟩), .int .i64 0]) (by kernel_rfl) ?_
  exact ⟨_, _, rfl, HS⟩

set_option maxRecDepth 100000 in
set_option maxHeartbeats 1000000 in
theorem pnewP_ok (cap : Nat) (W : World) (h0 : 1 ≤ cap) (h1 : cap ≤ 65536) : Calls Tryd.prog 44 #[.int .i64 (cap : Int)] W fun e W' => ∃ g c, e = .returned (.tuple #[.pointer (some ⟨g, 0, none⟩), .int .i64 0]) ∧ St W (owns []) W' [blk g [.chan (some c)] 95, chn c cap (([] : List Nat).map fun n : Nat => Value.pointer (some ⟨n, 0, none⟩))] := by
  have HS : St W (owns []) W [] := St.start W _
  refine calls_enter [.int .i64 (cap : Int), undef, undef, undef, undef, undef, undef, undef, undef, undef, undef, undef, undef, undef] Tryd.func44 rfl (by kernel_rfl) ?_
  refine wp_seq ?_
  refine wp_region_lit ?_
  refine ql (.pointer none) (by kernel_rfl) (by kernel_rfl) ?_
  refine ql (.int .i64 0) (by kernel_rfl) (by kernel_rfl) ?_
  refine wpList_nil ?_
  refine x_then ?_
  refine wp_seq ?_
  refine wp_block ?_
  refine wp_seq ?_
  refine wp_region_lit ?_
  refine ql (.int .i64 (cap : Int)) (by kernel_rfl) (by kernel_rfl) ?_
  refine ql (.bool false) (by kernel_rfl) (R_nbool (p := (cap : Int) < (1 : Int)) (by kernel_rfl) (by omega)) ?_
  refine ql (.bool false) (by kernel_rfl) (by kernel_rfl) ?_
  refine wpList_nil ?_
  refine x_then ?_
  refine wp_cond_false (by kernel_rfl) ?_
  refine wp_seq ?_
  refine wp_region_lit ?_
  refine ql (.int .i64 (cap : Int)) (by kernel_rfl) (by kernel_rfl) ?_
  refine ql (.bool false) (by kernel_rfl) (R_nbool (p := (cap : Int) > (65536 : Int)) (by kernel_rfl) (by omega)) ?_
  refine ql (.bool false) (by kernel_rfl) (by kernel_rfl) ?_
  refine wpList_nil ?_
  refine x_then ?_
  refine wp_cond_false (by kernel_rfl) ?_
  refine wp_skip ?_
  refine x_inb ?_
  refine x_then ?_
  refine wp_seq ?_
  refine wp_region_lit ?_
  refine ql (.int .i64 (cap : Int)) (by kernel_rfl) (by kernel_rfl) ?_
  refine kmc (b := 8) HS (cap) (by kernel_rfl) (k_eq (k := .i64) (m := (cap : Int)) (by kernel_rfl) (by omega)) Tryd.underlying93 (by kernel_rfl) (by omega) (by decide) ?_
  intro c1 W2 H_
  replace HS : St W (owns []) W2 [chn c1 cap (([] : List Nat).map fun n : Nat => Value.pointer (some ⟨n, 0, none⟩))] := H_.cast_ (by rfl)
  clear H_
  refine ql (.agg #[.chan (some c1)]) (by kernel_rfl) (by kernel_rfl) ?_
  refine kb HS [.chan (some c1)] 95 (fun g => .pointer (some ⟨g, 0, none⟩)) (by kernel_rfl) (by kernel_rfl) ?_
  intro g3 W4 H_
  replace HS : St W (owns []) W4 [blk g3 [.chan (some c1)] 95, chn c1 cap (([] : List Nat).map fun n : Nat => Value.pointer (some ⟨n, 0, none⟩))] := H_
  clear H_
  refine ql (.pointer (some ⟨g3, 0, none⟩)) (by kernel_rfl) (by kernel_rfl) ?_
  refine ql (.int .i64 0) (by kernel_rfl) (by kernel_rfl) ?_
  refine wpList_nil ?_
  refine x_then ?_
  refine wp_ret ?_
  refine ret_ (.tuple #[.pointer (some ⟨g3, 0, none⟩), .int .i64 0]) (by kernel_rfl) ?_
  exact ⟨_, _, rfl, HS⟩

set_option maxRecDepth 100000 in
set_option maxHeartbeats 1000000 in
theorem awake39 (W : World) : Calls Tryd.prog 20 #[] W fun e W' => e = .returned (.bool true) ∧ St W (owns []) W' [] := by
  have HS : St W (owns []) W [] := St.start W _
  refine calls_enter (undef :: undef :: undef :: undef :: undef :: undef :: undef :: undef :: undef :: undef :: undef :: undef :: undef :: undef :: undef :: undef :: undef :: undef :: undef :: undef :: undef :: undef :: undef :: undef :: undef :: undef :: undef :: undef :: undef :: undef :: undef :: undef :: undef :: undef :: undef :: undef :: undef :: undef :: undef :: undef :: undef :: undef :: undef :: undef :: undef :: undef :: undef :: undef :: undef :: undef :: undef :: undef :: []) Tryd.func20 rfl (by kernel_rfl) ?_
  refine wp_seq ?_
  refine wp_region_lit ?_
  refine ql (.bool false) (by kernel_rfl) (by kernel_rfl) ?_
  refine wpList_nil ?_
  refine x_then ?_
  refine wp_seq ?_
  refine wp_region_lit ?_
  refine qc (f := 46) (args := #[.int .i64 2]) (by kernel_rfl) (R_call #[.int .i64 2] Tryd.func46 (by kernel_rfl) (by kernel_rfl) (by kernel_rfl)) ?_
  refine (pnewS_ok 2 _ (by decide) (by decide)).mono ?_
  rintro e W1 ⟨g, c, rfl, H_⟩
  refine ⟨_, rfl, ?_⟩
  replace HS : St W (owns []) W1 [blk g [.chan (some c)] 98, chn c 2 (([] : List ByteArray).map fun n : ByteArray => Value.string n)] := HS.join (F := []) (G := [blk g [.chan (some c)] 98, chn c 2 (([] : List ByteArray).map fun n : ByteArray => Value.string n)]) H_
  clear H_
  refine ql (.tuple #[.pointer (some ⟨g, 0, none⟩), .int .i64 0]) (by kernel_rfl) (by kernel_rfl) ?_
  refine ql (.pointer (some ⟨g, 0, none⟩)) (by kernel_rfl) (by kernel_rfl) ?_
  refine ql (.int .i64 0) (by kernel_rfl) (by kernel_rfl) ?_
  refine ql (.pointer (some ⟨g, 0, none⟩)) (by kernel_rfl) (by kernel_rfl) ?_
  refine ql (.int .i64 0) (by kernel_rfl) (by kernel_rfl) ?_
  refine wpList_nil ?_
  refine x_then ?_
  refine wp_seq ?_
  refine wp_region_lit ?_
  refine ql (.pointer (some ⟨g, 0, none⟩)) (by kernel_rfl) (by kernel_rfl) ?_
  refine qc (f := 47) (args := #[.pointer (some ⟨g, 0, none⟩), .string (⟨#[97]⟩)]) (by kernel_rfl) (R_call #[.pointer (some ⟨g, 0, none⟩), .string (⟨#[97]⟩)] Tryd.func47 (by kernel_rfl) (by kernel_rfl) (by kernel_rfl)) ?_
  refine (pputS_room g c 98 2 ([] : List ByteArray) ⟨#[97]⟩ _ _ (St.focus (F := [blk g [.chan (some c)] 98, chn c 2 (([] : List ByteArray).map fun n : ByteArray => Value.string n)]) HS) (by decide)).mono ?_
  rintro e W2 ⟨rfl, H_⟩
  refine ⟨_, rfl, ?_⟩
  replace HS : St W (owns []) W2 [blk g [.chan (some c)] 98, chn c 2 (([(⟨#[97]⟩ : ByteArray)]).map fun n : ByteArray => Value.string n)] := HS.join (F := [blk g [.chan (some c)] 98, chn c 2 (([] : List ByteArray).map fun n : ByteArray => Value.string n)]) (G := [blk g [.chan (some c)] 98, chn c 2 (([(⟨#[97]⟩ : ByteArray)]).map fun n : ByteArray => Value.string n)]) H_
  clear H_
  refine ql (.pointer (some ⟨g, 0, none⟩)) (by kernel_rfl) (by kernel_rfl) ?_
  refine qc (f := 47) (args := #[.pointer (some ⟨g, 0, none⟩), .string (⟨#[98]⟩)]) (by kernel_rfl) (R_call #[.pointer (some ⟨g, 0, none⟩), .string (⟨#[98]⟩)] Tryd.func47 (by kernel_rfl) (by kernel_rfl) (by kernel_rfl)) ?_
  refine (pputS_room g c 98 2 [(⟨#[97]⟩ : ByteArray)] ⟨#[98]⟩ _ _ (St.focus (F := [blk g [.chan (some c)] 98, chn c 2 (([(⟨#[97]⟩ : ByteArray)]).map fun n : ByteArray => Value.string n)]) HS) (by decide)).mono ?_
  rintro e W3 ⟨rfl, H_⟩
  refine ⟨_, rfl, ?_⟩
  replace HS : St W (owns []) W3 [blk g [.chan (some c)] 98, chn c 2 (([(⟨#[97]⟩ : ByteArray), ⟨#[98]⟩]).map fun n : ByteArray => Value.string n)] := HS.join (F := [blk g [.chan (some c)] 98, chn c 2 (([(⟨#[97]⟩ : ByteArray)]).map fun n : ByteArray => Value.string n)]) (G := [blk g [.chan (some c)] 98, chn c 2 (([(⟨#[97]⟩ : ByteArray), ⟨#[98]⟩]).map fun n : ByteArray => Value.string n)]) H_
  clear H_
  refine ql (.pointer (some ⟨g, 0, none⟩)) (by kernel_rfl) (by kernel_rfl) ?_
  refine qc (f := 47) (args := #[.pointer (some ⟨g, 0, none⟩), .string (⟨#[99]⟩)]) (by kernel_rfl) (R_call #[.pointer (some ⟨g, 0, none⟩), .string (⟨#[99]⟩)] Tryd.func47 (by kernel_rfl) (by kernel_rfl) (by kernel_rfl)) ?_
  refine (pputS_full g c 98 2 [(⟨#[97]⟩ : ByteArray), ⟨#[98]⟩] ⟨#[99]⟩ _ _ (St.focus (F := [blk g [.chan (some c)] 98, chn c 2 (([(⟨#[97]⟩ : ByteArray), ⟨#[98]⟩]).map fun n : ByteArray => Value.string n)]) HS) (by decide)).mono ?_
  rintro e W4 ⟨rfl, H_⟩
  refine ⟨_, rfl, ?_⟩
  replace HS : St W (owns []) W4 [blk g [.chan (some c)] 98, chn c 2 (([(⟨#[97]⟩ : ByteArray), ⟨#[98]⟩]).map fun n : ByteArray => Value.string n)] := HS.join (F := [blk g [.chan (some c)] 98, chn c 2 (([(⟨#[97]⟩ : ByteArray), ⟨#[98]⟩]).map fun n : ByteArray => Value.string n)]) (G := [blk g [.chan (some c)] 98, chn c 2 (([(⟨#[97]⟩ : ByteArray), ⟨#[98]⟩]).map fun n : ByteArray => Value.string n)]) H_
  clear H_
  refine ql (.bool true) (by kernel_rfl) (by kernel_rfl) ?_
  refine ql (.bool true) (by kernel_rfl) (by kernel_rfl) ?_
  refine ql (.bool false) (by kernel_rfl) (by kernel_rfl) ?_
  refine wpList_nil ?_
  refine x_then ?_
  refine wp_seq ?_
  refine wp_region_lit ?_
  refine ql (.pointer (some ⟨g, 0, none⟩)) (by kernel_rfl) (by kernel_rfl) ?_
  refine qc (f := 48) (args := #[.pointer (some ⟨g, 0, none⟩)]) (by kernel_rfl) (R_call #[.pointer (some ⟨g, 0, none⟩)] Tryd.func48 (by kernel_rfl) (by kernel_rfl) (by kernel_rfl)) ?_
  refine (pgetS_some g c 98 2 [(⟨#[98]⟩ : ByteArray)] ⟨#[97]⟩ _ _ (St.focus (F := [blk g [.chan (some c)] 98, chn c 2 (([(⟨#[97]⟩ : ByteArray), ⟨#[98]⟩]).map fun n : ByteArray => Value.string n)]) HS)).mono ?_
  rintro e W5 ⟨rfl, H_⟩
  refine ⟨_, rfl, ?_⟩
  replace HS : St W (owns []) W5 [blk g [.chan (some c)] 98, chn c 2 (([(⟨#[98]⟩ : ByteArray)]).map fun n : ByteArray => Value.string n)] := HS.join (F := [blk g [.chan (some c)] 98, chn c 2 (([(⟨#[97]⟩ : ByteArray), ⟨#[98]⟩]).map fun n : ByteArray => Value.string n)]) (G := [blk g [.chan (some c)] 98, chn c 2 (([(⟨#[98]⟩ : ByteArray)]).map fun n : ByteArray => Value.string n)]) H_
  clear H_
  refine ql (.tuple #[.string (⟨#[97]⟩), .bool true]) (by kernel_rfl) (by kernel_rfl) ?_
  refine ql (.string (⟨#[97]⟩)) (by kernel_rfl) (by kernel_rfl) ?_
  refine ql (.bool true) (by kernel_rfl) (by kernel_rfl) ?_
  refine ql (.string (⟨#[97]⟩)) (by kernel_rfl) (by kernel_rfl) ?_
  refine ql (.bool true) (by kernel_rfl) (by kernel_rfl) ?_
  refine wpList_nil ?_
  refine x_then ?_
  refine wp_seq ?_
  refine wp_region_lit ?_
  refine ql (.int .i64 0) (by kernel_rfl) (by kernel_rfl) ?_
  refine ql (.bool true) (by kernel_rfl) (R_beq (b := ((0 : Int) == 0)) (by kernel_rfl) (by decide)) ?_
  refine ql (.bool true) (by kernel_rfl) (by kernel_rfl) ?_
  refine ql (.bool true) (by kernel_rfl) (by kernel_rfl) ?_
  refine ql (.bool true) (by kernel_rfl) (by kernel_rfl) ?_
  refine ql (.bool true) (by kernel_rfl) (by kernel_rfl) ?_
  refine ql (.bool true) (by kernel_rfl) (by kernel_rfl) ?_
  refine ql (.bool true) (by kernel_rfl) (by kernel_rfl) ?_
  refine ql (.bool true) (by kernel_rfl) (by kernel_rfl) ?_
  refine ql (.bool false) (by kernel_rfl) (by kernel_rfl) ?_
  refine ql (.bool true) (by kernel_rfl) (by kernel_rfl) ?_
  refine ql (.bool true) (by kernel_rfl) (by kernel_rfl) ?_
  refine ql (.bool true) (by kernel_rfl) (by kernel_rfl) ?_
  refine ql (.string (⟨#[97]⟩)) (by kernel_rfl) (by kernel_rfl) ?_
  refine ql (.bool true) (by kernel_rfl) (by kernel_rfl) ?_
  refine ql (.bool true) (by kernel_rfl) (by kernel_rfl) ?_
  refine ql (.bool true) (by kernel_rfl) (by kernel_rfl) ?_
  refine ql (.bool true) (by kernel_rfl) (by kernel_rfl) ?_
  refine ql (.bool true) (by kernel_rfl) (by kernel_rfl) ?_
  refine ql (.bool true) (by kernel_rfl) (by kernel_rfl) ?_
  refine ql (.pointer (some ⟨g, 0, none⟩)) (by kernel_rfl) (by kernel_rfl) ?_
  refine qc (f := 49) (args := #[.pointer (some ⟨g, 0, none⟩)]) (by kernel_rfl) (R_call #[.pointer (some ⟨g, 0, none⟩)] Tryd.func49 (by kernel_rfl) (by kernel_rfl) (by kernel_rfl)) ?_
  refine (plenS g c 2 [(⟨#[98]⟩ : ByteArray)] _ (HS.cell (i := 0) (j := 0) rfl rfl) (HS.get (i := 1) rfl) (by decide) (by decide)).mono ?_
  rintro e W6 ⟨rfl, H_⟩
  refine ⟨_, rfl, ?_⟩
  replace HS : St W (owns []) W6 [blk g [.chan (some c)] 98, chn c 2 (([(⟨#[98]⟩ : ByteArray)]).map fun n : ByteArray => Value.string n)] := HS.join (F := []) (G := []) H_
  clear H_
  refine ql (.bool true) (by kernel_rfl) (R_beq (b := ((1 : Int) == 1)) (by kernel_rfl) (by decide)) ?_
  refine ql (.bool true) (by kernel_rfl) (by kernel_rfl) ?_
  refine ql (.bool true) (by kernel_rfl) (by kernel_rfl) ?_
  refine ql (.pointer (some ⟨g, 0, none⟩)) (by kernel_rfl) (by kernel_rfl) ?_
  refine qc (f := 50) (args := #[.pointer (some ⟨g, 0, none⟩)]) (by kernel_rfl) (R_call #[.pointer (some ⟨g, 0, none⟩)] Tryd.func50 (by kernel_rfl) (by kernel_rfl) (by kernel_rfl)) ?_
  refine (proomS g c 2 [(⟨#[98]⟩ : ByteArray)] _ (HS.cell (i := 0) (j := 0) rfl rfl) (HS.get (i := 1) rfl) (by decide) (by decide)).mono ?_
  rintro e W7 ⟨rfl, H_⟩
  refine ⟨_, rfl, ?_⟩
  replace HS : St W (owns []) W7 [blk g [.chan (some c)] 98, chn c 2 (([(⟨#[98]⟩ : ByteArray)]).map fun n : ByteArray => Value.string n)] := HS.join (F := []) (G := []) H_
  clear H_
  refine ql (.bool true) (by kernel_rfl) (R_beq (b := ((1 : Int) == 1)) (by kernel_rfl) (by decide)) ?_
  refine ql (.bool true) (by kernel_rfl) (by kernel_rfl) ?_
  refine ql (.bool true) (by kernel_rfl) (by kernel_rfl) ?_
  refine wpList_nil ?_
  refine x_then ?_
  refine wp_ret ?_
  refine ret_ (.bool true) (by kernel_rfl) ?_
  exact ⟨rfl, HS.tail (F := [blk g [.chan (some c)] 98, chn c 2 (([(⟨#[98]⟩ : ByteArray)]).map fun n : ByteArray => Value.string n)])⟩

set_option maxRecDepth 100000 in
set_option maxHeartbeats 1000000 in
theorem pmove_n2 (g : Nat) (W : World) : Calls Tryd.prog 13 #[.pointer (some ⟨g, 0, none⟩), .pointer none] W fun e W' => e = .returned (.int .i64 0) ∧ St W (owns []) W' [] := by
  have HS : St W (owns []) W [] := St.start W _
  refine calls_enter [.pointer (some ⟨g, 0, none⟩), .pointer none, undef, undef, undef, undef, undef, undef, undef, undef, undef, undef, undef, undef, undef, undef, undef, undef, undef, undef, undef, undef, undef, undef, undef, undef, undef, undef, undef] Tryd.func13 rfl (by kernel_rfl) ?_
  refine wp_seq ?_
  refine wp_region_lit ?_
  refine ql (.int .i64 0) (by kernel_rfl) (by kernel_rfl) ?_
  refine wpList_nil ?_
  refine x_then ?_
  refine wp_seq ?_
  refine wp_region_lit ?_
  refine ql (.int .i64 0) (by kernel_rfl) (by kernel_rfl) ?_
  refine wpList_nil ?_
  refine x_then ?_
  refine wp_seq ?_
  refine wp_block ?_
  refine wp_loop_ghost (fun kq a' w' => a' = Fr [.pointer (some ⟨g, 0, none⟩), .pointer none, undef, undef, .int .i64 0, .int .i64 0, undef, undef, undef, undef, undef, undef, undef, undef, undef, undef, undef, undef, undef, undef, undef, undef, undef, undef, undef, undef, undef, undef, undef] ∧ kq = 0 ∧ St W (owns []) w' []) 0 ⟨rfl, rfl, HS⟩ ?_
  clear HS
  rintro kq a' WB ⟨rfl, hk, HS⟩
  refine wp_seq ?_
  refine wp_seq ?_
  refine wp_region_lit ?_
  refine ql (.pointer (some ⟨g, 0, none⟩)) (by kernel_rfl) (by kernel_rfl) ?_
  refine ql (.pointer none) (by kernel_rfl) (by kernel_rfl) ?_
  refine ql (.bool true) (by kernel_rfl) (by kernel_rfl) ?_
  refine ql (.bool true) (by kernel_rfl) (by kernel_rfl) ?_
  refine ql (.pointer none) (by kernel_rfl) (by kernel_rfl) ?_
  refine qc (f := 12) (args := #[.pointer none]) (by kernel_rfl) (R_call #[.pointer none] Tryd.func12 (by kernel_rfl) (by kernel_rfl) (by kernel_rfl)) ?_
  refine (proom_nil _).mono ?_
  rintro e W1 ⟨rfl, H_⟩
  refine ⟨_, rfl, ?_⟩
  replace HS : St W (owns []) W1 [] := HS.join (F := []) (G := []) H_
  clear H_
  refine ql (.bool false) (by kernel_rfl) (R_beq (b := decide ((0 : Int) > 0)) (by kernel_rfl) (by decide)) ?_
  refine ql (.bool false) (by kernel_rfl) (by kernel_rfl) ?_
  refine wpList_nil ?_
  refine x_then ?_
  refine wp_cond_false (by kernel_rfl) ?_
  refine wp_exit ?_
  refine x_thenE ?_
  refine x_thenE ?_
  refine x_hit ?_
  refine x_then ?_
  refine wp_seq ?_
  refine wp_region_lit ?_
  refine ql (.int .i64 0) (by kernel_rfl) (by kernel_rfl) ?_
  refine ql (.int .i64 0) (by kernel_rfl) (by kernel_rfl) ?_
  refine wpList_nil ?_
  refine x_then ?_
  refine wp_ret ?_
  refine ret_ (.int .i64 0) (by kernel_rfl) ?_
  exact ⟨rfl, HS⟩

set_option maxRecDepth 100000 in
set_option maxHeartbeats 1000000 in
theorem pmove_n1 (g c : Nat) (W : World) (hcell : W.cell? ⟨g, 0, none⟩ = some (.chan (some c))) (hbuf : (chn c 3 (([] : List Int).map fun n : Int => Value.int .i64 n)).P W) : Calls Tryd.prog 13 #[.pointer none, .pointer (some ⟨g, 0, none⟩)] W fun e W' => e = .returned (.int .i64 0) ∧ St W (owns []) W' [] := by
  have HS : St W (owns []) W [] := St.start W _
  refine calls_enter [.pointer none, .pointer (some ⟨g, 0, none⟩), undef, undef, undef, undef, undef, undef, undef, undef, undef, undef, undef, undef, undef, undef, undef, undef, undef, undef, undef, undef, undef, undef, undef, undef, undef, undef, undef] Tryd.func13 rfl (by kernel_rfl) ?_
  refine wp_seq ?_
  refine wp_region_lit ?_
  refine ql (.int .i64 0) (by kernel_rfl) (by kernel_rfl) ?_
  refine wpList_nil ?_
  refine x_then ?_
  refine wp_seq ?_
  refine wp_region_lit ?_
  refine ql (.int .i64 0) (by kernel_rfl) (by kernel_rfl) ?_
  refine wpList_nil ?_
  refine x_then ?_
  refine wp_seq ?_
  refine wp_block ?_
  refine wp_loop_ghost (fun kq a' w' => a' = Fr [.pointer none, .pointer (some ⟨g, 0, none⟩), undef, undef, .int .i64 0, .int .i64 0, undef, undef, undef, undef, undef, undef, undef, undef, undef, undef, undef, undef, undef, undef, undef, undef, undef, undef, undef, undef, undef, undef, undef] ∧ kq = 0 ∧ St W (owns []) w' []) 0 ⟨rfl, rfl, HS⟩ ?_
  clear HS
  rintro kq a' WB ⟨rfl, hk, HS⟩
  refine wp_seq ?_
  refine wp_seq ?_
  refine wp_region_lit ?_
  refine ql (.pointer none) (by kernel_rfl) (by kernel_rfl) ?_
  refine ql (.pointer (some ⟨g, 0, none⟩)) (by kernel_rfl) (by kernel_rfl) ?_
  refine ql (.bool true) (by kernel_rfl) (by kernel_rfl) ?_
  refine ql (.bool true) (by kernel_rfl) (by kernel_rfl) ?_
  refine ql (.pointer (some ⟨g, 0, none⟩)) (by kernel_rfl) (by kernel_rfl) ?_
  refine qc (f := 12) (args := #[.pointer (some ⟨g, 0, none⟩)]) (by kernel_rfl) (R_call #[.pointer (some ⟨g, 0, none⟩)] Tryd.func12 (by kernel_rfl) (by kernel_rfl) (by kernel_rfl)) ?_
  refine (proom g c 3 [] _ (HS.old0 hcell) (chn_k HS.kept.nil hbuf) (by omega) (by simp)).mono ?_
  rintro e W1 ⟨rfl, H_⟩
  refine ⟨_, rfl, ?_⟩
  replace HS : St W (owns []) W1 [] := HS.join (F := []) (G := []) H_
  clear H_
  refine ql (.bool true) (by kernel_rfl) (R_beq (b := decide ((3 : Int) > 0)) (by kernel_rfl) (by decide)) ?_
  refine ql (.bool true) (by kernel_rfl) (by kernel_rfl) ?_
  refine wpList_nil ?_
  refine x_then ?_
  refine wp_cond_true (by kernel_rfl) ?_
  refine wp_skip ?_
  refine x_then ?_
  refine wp_block ?_
  refine wp_seq ?_
  refine wp_region_lit ?_
  refine ql (.pointer none) (by kernel_rfl) (by kernel_rfl) ?_
  refine qc (f := 9) (args := #[.pointer none]) (by kernel_rfl) (R_call #[.pointer none] Tryd.func9 (by kernel_rfl) (by kernel_rfl) (by kernel_rfl)) ?_
  refine (pget_nil 0 _).mono ?_
  rintro e W2 ⟨rfl, H_⟩
  refine ⟨_, rfl, ?_⟩
  replace HS : St W (owns []) W2 [] := HS.join (F := []) (G := []) H_
  clear H_
  refine ql (.tuple #[.int .i64 0, .bool false]) (by kernel_rfl) (by kernel_rfl) ?_
  refine ql (.int .i64 0) (by kernel_rfl) (by kernel_rfl) ?_
  refine ql (.bool false) (by kernel_rfl) (by kernel_rfl) ?_
  refine ql (.int .i64 0) (by kernel_rfl) (by kernel_rfl) ?_
  refine ql (.bool false) (by kernel_rfl) (by kernel_rfl) ?_
  refine wpList_nil ?_
  refine x_then ?_
  refine wp_seq ?_
  refine wp_seq ?_
  refine wp_region_lit ?_
  refine ql (.bool false) (by kernel_rfl) (by kernel_rfl) ?_
  refine ql (.bool true) (by kernel_rfl) (by kernel_rfl) ?_
  refine wpList_nil ?_
  refine x_then ?_
  refine wp_cond_true (by kernel_rfl) ?_
  refine wp_exit ?_
  refine x_thenE ?_
  refine x_pass (by decide) ?_
  refine x_thenE ?_
  refine x_hit ?_
  refine x_then ?_
  refine wp_seq ?_
  refine wp_region_lit ?_
  refine ql (.int .i64 0) (by kernel_rfl) (by kernel_rfl) ?_
  refine ql (.int .i64 0) (by kernel_rfl) (by kernel_rfl) ?_
  refine wpList_nil ?_
  refine x_then ?_
  refine wp_ret ?_
  refine ret_ (.int .i64 0) (by kernel_rfl) ?_
  exact ⟨rfl, HS⟩


theorem pnewP_okI (b : Int) (W : World) (h0 : 1 ≤ b) (h1 : b ≤ 65536) : Calls Tryd.prog 44 #[.int .i64 b] W fun e W' => ∃ g c, e = .returned (.tuple #[.pointer (some ⟨g, 0, none⟩), .int .i64 0]) ∧ St W (owns []) W' [blk g [.chan (some c)] 95, chn c b.toNat (([] : List Nat).map fun n : Nat => Value.pointer (some ⟨n, 0, none⟩))] := by
  have h := pnewP_ok b.toNat W (by omega) (by omega)
  rwa [Int.toNat_of_nonneg (by omega : 0 ≤ b)] at h

set_option maxRecDepth 100000 in
set_option maxHeartbeats 1000000 in
theorem nsets_ok (size room : Int) (W : World) (h0 : 0 ≤ size) (h1 : size ≤ 1048576) (h2 : 1 ≤ room) (h3 : room ≤ 65536) : Calls Tryd.prog 17 #[.int .i64 size, .int .i64 room] W fun e W' => ∃ gs gp c, e = .returned (.tuple #[.pointer (some ⟨gs, 0, none⟩), .int .i64 0]) ∧ St W (owns []) W' [blk gs [.pointer (some ⟨gp, 0, none⟩), .int .i64 size, .int .i64 0] 67, blk gp [.chan (some c)] 95, chn c room.toNat ((wptr ([] : List Ws)).map fun n : Nat => Value.pointer (some ⟨n, 0, none⟩)), many (rsE 77 74 size (wRw ([] : List Ws)))] := by
  have HS : St W (owns []) W [] := St.start W _
  refine calls_enter [.int .i64 size, .int .i64 room, undef, undef, undef, undef, undef, undef, undef, undef, undef, undef, undef, undef, undef, undef, undef, undef, undef, undef, undef, undef, undef, undef, undef, undef, undef, undef, undef, undef] Tryd.func17 rfl (by kernel_rfl) ?_
  refine wp_seq ?_
  refine wp_region_lit ?_
  refine ql (.pointer none) (by kernel_rfl) (by kernel_rfl) ?_
  refine ql (.int .i64 0) (by kernel_rfl) (by kernel_rfl) ?_
  refine wpList_nil ?_
  refine x_then ?_
  refine wp_seq ?_
  refine wp_seq ?_
  refine wp_region_lit ?_
  refine ql (.int .i64 size) (by kernel_rfl) (by kernel_rfl) ?_
  refine qc (f := 40) (args := #[.int .i64 size]) (by kernel_rfl) (R_call #[.int .i64 size] Tryd.func40 (by kernel_rfl) (by kernel_rfl) (by kernel_rfl)) ?_
  refine (dnew_ok size _ h0 h1).mono ?_
  rintro e W1 ⟨g9, a9, c9, ws9, rfl, H_, hR9⟩
  refine ⟨_, rfl, ?_⟩
  replace HS : St W (owns []) W1 [blk g9 [.slice (some ⟨a9, 0, none⟩) ws9.length c9, .int .i64 size] 77, row (some ⟨a9, 0, none⟩) ws9.length c9 (ci .u64 ws9) 74 1] := HS.join (F := []) (G := [blk g9 [.slice (some ⟨a9, 0, none⟩) ws9.length c9, .int .i64 size] 77, row (some ⟨a9, 0, none⟩) ws9.length c9 (ci .u64 ws9) 74 1]) H_
  clear H_
  refine ql (.tuple #[.pointer (some ⟨g9, 0, none⟩), .int .i64 0]) (by kernel_rfl) (by kernel_rfl) ?_
  refine ql (.pointer (some ⟨g9, 0, none⟩)) (by kernel_rfl) (by kernel_rfl) ?_
  refine ql (.int .i64 0) (by kernel_rfl) (by kernel_rfl) ?_
  refine ql (.pointer (some ⟨g9, 0, none⟩)) (by kernel_rfl) (by kernel_rfl) ?_
  refine ql (.int .i64 0) (by kernel_rfl) (by kernel_rfl) ?_
  refine wpList_nil ?_
  refine x_then ?_
  refine wp_seq ?_
  refine wp_region_lit ?_
  refine ql (.int .i64 0) (by kernel_rfl) (by kernel_rfl) ?_
  refine ql (.bool false) (by kernel_rfl) (R_beq (b := ((0 : Int) != 0)) (by kernel_rfl) (by decide)) ?_
  refine wpList_nil ?_
  refine x_then ?_
  refine wp_cond_false (by kernel_rfl) ?_
  refine wp_skip ?_
  refine x_then ?_
  refine wp_seq ?_
  refine wp_region_lit ?_
  refine ql (.int .i64 room) (by kernel_rfl) (by kernel_rfl) ?_
  refine qc (f := 44) (args := #[.int .i64 room]) (by kernel_rfl) (R_call #[.int .i64 room] Tryd.func44 (by kernel_rfl) (by kernel_rfl) (by kernel_rfl)) ?_
  refine (pnewP_okI room _ h2 h3).mono ?_
  rintro e W2 ⟨gp, c, rfl, H_⟩
  refine ⟨_, rfl, ?_⟩
  replace HS : St W (owns []) W2 [blk gp [.chan (some c)] 95, chn c room.toNat (([] : List Nat).map fun n : Nat => Value.pointer (some ⟨n, 0, none⟩)), blk g9 [.slice (some ⟨a9, 0, none⟩) ws9.length c9, .int .i64 size] 77, row (some ⟨a9, 0, none⟩) ws9.length c9 (ci .u64 ws9) 74 1] := HS.join (F := []) (G := [blk gp [.chan (some c)] 95, chn c room.toNat (([] : List Nat).map fun n : Nat => Value.pointer (some ⟨n, 0, none⟩))]) H_
  clear H_
  refine ql (.tuple #[.pointer (some ⟨gp, 0, none⟩), .int .i64 0]) (by kernel_rfl) (by kernel_rfl) ?_
  refine ql (.pointer (some ⟨gp, 0, none⟩)) (by kernel_rfl) (by kernel_rfl) ?_
  refine ql (.int .i64 0) (by kernel_rfl) (by kernel_rfl) ?_
  refine ql (.pointer (some ⟨gp, 0, none⟩)) (by kernel_rfl) (by kernel_rfl) ?_
  refine ql (.int .i64 0) (by kernel_rfl) (by kernel_rfl) ?_
  refine wpList_nil ?_
  refine x_then ?_
  refine wp_seq ?_
  refine wp_seq ?_
  refine wp_region_lit ?_
  refine ql (.int .i64 0) (by kernel_rfl) (by kernel_rfl) ?_
  refine ql (.bool false) (by kernel_rfl) (R_beq (b := ((0 : Int) != 0)) (by kernel_rfl) (by decide)) ?_
  refine wpList_nil ?_
  refine x_then ?_
  refine wp_cond_false (by kernel_rfl) ?_
  refine wp_skip ?_
  refine x_then ?_
  refine wp_seq ?_
  refine wp_region_lit ?_
  refine ql (.pointer (some ⟨gp, 0, none⟩)) (by kernel_rfl) (by kernel_rfl) ?_
  refine ql (.int .i64 size) (by kernel_rfl) (by kernel_rfl) ?_
  refine ql (.agg #[.pointer (some ⟨gp, 0, none⟩), .int .i64 size, .int .i64 0]) (by kernel_rfl) (by kernel_rfl) ?_
  refine kb HS [.pointer (some ⟨gp, 0, none⟩), .int .i64 size, .int .i64 0] 67 (fun g => .pointer (some ⟨g, 0, none⟩)) (by kernel_rfl) (by kernel_rfl) ?_
  intro g3 W4 H_
  replace HS : St W (owns []) W4 [blk g3 [.pointer (some ⟨gp, 0, none⟩), .int .i64 size, .int .i64 0] 67, blk gp [.chan (some c)] 95, chn c room.toNat (([] : List Nat).map fun n : Nat => Value.pointer (some ⟨n, 0, none⟩)), blk g9 [.slice (some ⟨a9, 0, none⟩) ws9.length c9, .int .i64 size] 77, row (some ⟨a9, 0, none⟩) ws9.length c9 (ci .u64 ws9) 74 1] := H_
  clear H_
  refine ql (.pointer (some ⟨g3, 0, none⟩)) (by kernel_rfl) (by kernel_rfl) ?_
  refine ql (.int .i64 0) (by kernel_rfl) (by kernel_rfl) ?_
  refine wpList_nil ?_
  refine x_then ?_
  refine wp_ret ?_
  refine ret_ (.tuple #[.pointer (some ⟨g3, 0, none⟩), .int .i64 0]) (by kernel_rfl) ?_
  replace HS : St W (owns []) W4 [blk g3 [.pointer (some ⟨gp, 0, none⟩), .int .i64 size, .int .i64 0] 67, blk gp [.chan (some c)] 95, chn c room.toNat (([] : List Nat).map fun n : Nat => Value.pointer (some ⟨n, 0, none⟩))] := St.tail (F := [blk g9 [.slice (some ⟨a9, 0, none⟩) ws9.length c9, .int .i64 size] 77, row (some ⟨a9, 0, none⟩) ws9.length c9 (ci .u64 ws9) 74 1]) (HS.perm (perm_ [3, 4, 0, 1, 2] (by kernel_rfl) rfl))
  replace HS := HS.nilM
  replace HS := HS.perm (perm_ [1, 2, 3, 0] (by kernel_rfl) rfl)
  exact ⟨_, gp, c, rfl, HS⟩

set_option maxRecDepth 100000 in
set_option maxHeartbeats 1000000 in
theorem stake_nil (W : World) : Calls Tryd.prog 14 #[.pointer none] W fun e W' => e = .returned (.pointer none) ∧ St W (owns []) W' [] := by
  have HS : St W (owns []) W [] := St.start W _
  refine calls_enter [.pointer none, undef, undef, undef, undef, undef, undef, undef, undef, undef, undef, undef, undef, undef, undef, undef, undef, undef, undef, undef, undef, undef, undef, undef, undef, undef, undef, undef, undef, undef, undef, undef, undef, undef, undef] Tryd.func14 rfl (by kernel_rfl) ?_
  refine wp_seq ?_
  refine wp_region_lit ?_
  refine ql (.pointer none) (by kernel_rfl) (by kernel_rfl) ?_
  refine wpList_nil ?_
  refine x_then ?_
  refine wp_seq ?_
  refine wp_seq ?_
  refine wp_region_lit ?_
  refine ql (.pointer none) (by kernel_rfl) (by kernel_rfl) ?_
  refine ql (.bool true) (by kernel_rfl) (by kernel_rfl) ?_
  refine wpList_nil ?_
  refine x_then ?_
  refine wp_cond_true (by kernel_rfl) ?_
  refine wp_seq ?_
  refine wp_region_lit ?_
  refine ql (.pointer none) (by kernel_rfl) (by kernel_rfl) ?_
  refine wpList_nil ?_
  refine x_then ?_
  refine wp_ret ?_
  refine x_thenR ?_
  refine ret_ (.pointer none) (by kernel_rfl) ?_
  exact ⟨rfl, HS⟩

set_option maxRecDepth 100000 in
set_option maxHeartbeats 1000000 in
theorem stake_new (gs gp c cap : Nat) (size made : Int) (W : World) (M : Nat → Prop) (HS : St W M W [blk gs [.pointer (some ⟨gp, 0, none⟩), .int .i64 size, .int .i64 made] 67, blk gp [.chan (some c)] 95, chn c cap ((wptr ([] : List Ws)).map fun n : Nat => Value.pointer (some ⟨n, 0, none⟩)), many (rsE 77 74 size (wRw ([] : List Ws)))]) (h0 : 0 ≤ size) (h1 : size ≤ 1048576) (hm0 : 0 ≤ made) (hm1 : made ≤ 1000000) : Calls Tryd.prog 14 #[.pointer (some ⟨gs, 0, none⟩)] W fun e W' => ∃ g a c1 ws, e = .returned (.pointer (some ⟨g, 0, none⟩)) ∧ St W M W' [blk g [.slice (some ⟨a, 0, none⟩) ws.length c1, .int .i64 size] 77, row (some ⟨a, 0, none⟩) ws.length c1 (ci .u64 ws) 74 1, blk gs [.pointer (some ⟨gp, 0, none⟩), .int .i64 size, .int .i64 (made + 1)] 67, blk gp [.chan (some c)] 95, chn c cap ((wptr ([] : List Ws)).map fun n : Nat => Value.pointer (some ⟨n, 0, none⟩)), many (rsE 77 74 size (wRw ([] : List Ws)))] ∧ Rep ws size [] := by
  refine calls_enter [.pointer (some ⟨gs, 0, none⟩), undef, undef, undef, undef, undef, undef, undef, undef, undef, undef, undef, undef, undef, undef, undef, undef, undef, undef, undef, undef, undef, undef, undef, undef, undef, undef, undef, undef, undef, undef, undef, undef, undef, undef] Tryd.func14 rfl (by kernel_rfl) ?_
  refine wp_seq ?_
  refine wp_region_lit ?_
  refine ql (.pointer none) (by kernel_rfl) (by kernel_rfl) ?_
  refine wpList_nil ?_
  refine x_then ?_
  refine wp_seq ?_
  refine wp_seq ?_
  refine wp_region_lit ?_
  refine ql (.pointer (some ⟨gs, 0, none⟩)) (by kernel_rfl) (by kernel_rfl) ?_
  refine ql (.bool false) (by kernel_rfl) (by kernel_rfl) ?_
  refine wpList_nil ?_
  refine x_then ?_
  refine wp_cond_false (by kernel_rfl) ?_
  refine wp_skip ?_
  refine x_then ?_
  refine wp_seq ?_
  refine wp_seq ?_
  refine wp_region_lit ?_
  refine ql (.pointer (some ⟨gs, 0, none⟩)) (by kernel_rfl) (by kernel_rfl) ?_
  refine ql (.pointer (some ⟨gs, 0, none⟩)) (by kernel_rfl) (by kernel_rfl) ?_
  refine ql (.pointer (some ⟨gs, 0, none⟩)) (by kernel_rfl) (by kernel_rfl) ?_
  refine ql (.pointer (some ⟨gp, 0, none⟩)) (by kernel_rfl) (R_load (p := ⟨gs, 0, none⟩) (by kernel_rfl) (by kernel_rfl) (by kernel_rfl) (HS.cell (i := 0) (j := 0) rfl rfl)) ?_
  refine qc (f := 39) (args := #[.pointer (some ⟨gp, 0, none⟩)]) (by kernel_rfl) (R_call #[.pointer (some ⟨gp, 0, none⟩)] Tryd.func39 (by kernel_rfl) (by kernel_rfl) (by kernel_rfl)) ?_
  replace HS : St W M W [blk gp [.chan (some c)] 95, chn c cap ((wptr ([] : List Ws)).map fun n : Nat => Value.pointer (some ⟨n, 0, none⟩)), blk gs [.pointer (some ⟨gp, 0, none⟩), .int .i64 size, .int .i64 made] 67, many (rsE 77 74 size (wRw ([] : List Ws)))] := HS.perm (perm_ [1, 2, 0, 3] (by kernel_rfl) rfl)
  refine (pgetP_none gp c 95 cap _ _ (St.focus (F := [blk gp [.chan (some c)] 95, chn c cap ((wptr ([] : List Ws)).map fun n : Nat => Value.pointer (some ⟨n, 0, none⟩))]) HS)).mono ?_
  rintro e W1 ⟨rfl, H_⟩
  refine ⟨_, rfl, ?_⟩
  replace HS : St W M W1 [blk gp [.chan (some c)] 95, chn c cap ([]), blk gs [.pointer (some ⟨gp, 0, none⟩), .int .i64 size, .int .i64 made] 67, many (rsE 77 74 size (wRw ([] : List Ws)))] := HS.join (F := [blk gp [.chan (some c)] 95, chn c cap ((wptr ([] : List Ws)).map fun n : Nat => Value.pointer (some ⟨n, 0, none⟩))]) (G := [blk gp [.chan (some c)] 95, chn c cap ([])]) H_
  clear H_
  refine ql (.tuple #[.pointer none, .bool false]) (by kernel_rfl) (by kernel_rfl) ?_
  refine ql (.pointer none) (by kernel_rfl) (by kernel_rfl) ?_
  refine ql (.bool false) (by kernel_rfl) (by kernel_rfl) ?_
  refine ql (.pointer none) (by kernel_rfl) (by kernel_rfl) ?_
  refine ql (.bool false) (by kernel_rfl) (by kernel_rfl) ?_
  refine wpList_nil ?_
  refine x_then ?_
  refine wp_seq ?_
  refine wp_region_lit ?_
  refine ql (.bool false) (by kernel_rfl) (by kernel_rfl) ?_
  refine wpList_nil ?_
  refine x_then ?_
  refine wp_cond_false (by kernel_rfl) ?_
  refine wp_skip ?_
  refine x_then ?_
  refine wp_seq ?_
  refine wp_region_lit ?_
  refine ql (.pointer (some ⟨gs, 0, none⟩)) (by kernel_rfl) (by kernel_rfl) ?_
  refine ql (.pointer (some ⟨gs, 0, none⟩)) (by kernel_rfl) (by kernel_rfl) ?_
  refine ql (.pointer (some ⟨gs, 2, none⟩)) (by kernel_rfl) (by kernel_rfl) ?_
  refine ql (.int .i64 made) (by kernel_rfl) (R_load (p := ⟨gs, 2, none⟩) (by kernel_rfl) (by kernel_rfl) (by kernel_rfl) (HS.cell (i := 2) (j := 2) rfl rfl)) ?_
  refine ql (.int .i64 (made + 1)) (by kernel_rfl) (R_int (by kernel_rfl) (w64 (by omega))) ?_
  refine ql (.pointer (some ⟨gs, 0, none⟩)) (by kernel_rfl) (by kernel_rfl) ?_
  refine ql (.pointer (some ⟨gs, 2, none⟩)) (by kernel_rfl) (by kernel_rfl) ?_
  refine ks (v := .int .i64 (made + 1)) HS 2 rfl (2) [.int .i64 (made + 1)] (by kernel_rfl) (by kernel_rfl) (by kernel_rfl) (by kernel_rfl) (by kernel_rfl) (one_ (by kernel_rfl)) (Nat.le_of_ble_eq_true rfl) rfl ?_
  intro W2 H_
  replace HS : St W M W2 [blk gp [.chan (some c)] 95, chn c cap ([]), blk gs [.pointer (some ⟨gp, 0, none⟩), .int .i64 size, .int .i64 (made + 1)] 67, many (rsE 77 74 size (wRw ([] : List Ws)))] := H_
  clear H_
  refine wpList_nil ?_
  refine x_then ?_
  refine wp_seq ?_
  refine wp_region_lit ?_
  refine ql (.pointer (some ⟨gs, 0, none⟩)) (by kernel_rfl) (by kernel_rfl) ?_
  refine ql (.pointer (some ⟨gs, 0, none⟩)) (by kernel_rfl) (by kernel_rfl) ?_
  refine ql (.pointer (some ⟨gs, 1, none⟩)) (by kernel_rfl) (by kernel_rfl) ?_
  refine ql (.int .i64 size) (by kernel_rfl) (R_load (p := ⟨gs, 1, none⟩) (by kernel_rfl) (by kernel_rfl) (by kernel_rfl) (HS.cell (i := 2) (j := 1) rfl rfl)) ?_
  refine qc (f := 40) (args := #[.int .i64 size]) (by kernel_rfl) (R_call #[.int .i64 size] Tryd.func40 (by kernel_rfl) (by kernel_rfl) (by kernel_rfl)) ?_
  refine (dnew_ok size _ h0 h1).mono ?_
  rintro e W3 ⟨g9, a9, c9, ws9, rfl, H_, hR9⟩
  refine ⟨_, rfl, ?_⟩
  replace HS : St W M W3 [blk g9 [.slice (some ⟨a9, 0, none⟩) ws9.length c9, .int .i64 size] 77, row (some ⟨a9, 0, none⟩) ws9.length c9 (ci .u64 ws9) 74 1, blk gp [.chan (some c)] 95, chn c cap ([]), blk gs [.pointer (some ⟨gp, 0, none⟩), .int .i64 size, .int .i64 (made + 1)] 67, many (rsE 77 74 size (wRw ([] : List Ws)))] := HS.join (F := []) (G := [blk g9 [.slice (some ⟨a9, 0, none⟩) ws9.length c9, .int .i64 size] 77, row (some ⟨a9, 0, none⟩) ws9.length c9 (ci .u64 ws9) 74 1]) H_
  clear H_
  refine ql (.tuple #[.pointer (some ⟨g9, 0, none⟩), .int .i64 0]) (by kernel_rfl) (by kernel_rfl) ?_
  refine ql (.pointer (some ⟨g9, 0, none⟩)) (by kernel_rfl) (by kernel_rfl) ?_
  refine ql (.int .i64 0) (by kernel_rfl) (by kernel_rfl) ?_
  refine ql (.pointer (some ⟨g9, 0, none⟩)) (by kernel_rfl) (by kernel_rfl) ?_
  refine ql (.int .i64 0) (by kernel_rfl) (by kernel_rfl) ?_
  refine wpList_nil ?_
  refine x_then ?_
  refine wp_seq ?_
  refine wp_region_lit ?_
  refine ql (.pointer (some ⟨g9, 0, none⟩)) (by kernel_rfl) (by kernel_rfl) ?_
  refine ql (.pointer (some ⟨g9, 0, none⟩)) (by kernel_rfl) (by kernel_rfl) ?_
  refine wpList_nil ?_
  refine x_then ?_
  refine wp_ret ?_
  refine ret_ (.pointer (some ⟨g9, 0, none⟩)) (by kernel_rfl) ?_
  replace HS : St W M W3 [blk g9 [.slice (some ⟨a9, 0, none⟩) ws9.length c9, .int .i64 size] 77, row (some ⟨a9, 0, none⟩) ws9.length c9 (ci .u64 ws9) 74 1, blk gs [.pointer (some ⟨gp, 0, none⟩), .int .i64 size, .int .i64 (made + 1)] 67, blk gp [.chan (some c)] 95, chn c cap ([]), many (rsE 77 74 size (wRw ([] : List Ws)))] := HS.perm (perm_ [0, 1, 4, 2, 3, 5] (by kernel_rfl) rfl)
  exact ⟨g9, a9, c9, ws9, rfl, HS, hR9⟩

set_option maxRecDepth 100000 in
set_option maxHeartbeats 1000000 in
theorem smade_nil (W : World) : Calls Tryd.prog 16 #[.pointer none] W fun e W' => e = .returned (.int .i64 0) ∧ St W (owns []) W' [] := by
  have HS : St W (owns []) W [] := St.start W _
  refine calls_enter [.pointer none, undef, undef, undef, undef, undef, undef, undef, undef] Tryd.func16 rfl (by kernel_rfl) ?_
  refine wp_seq ?_
  refine wp_region_lit ?_
  refine ql (.int .i64 0) (by kernel_rfl) (by kernel_rfl) ?_
  refine wpList_nil ?_
  refine x_then ?_
  refine wp_seq ?_
  refine wp_seq ?_
  refine wp_region_lit ?_
  refine ql (.pointer none) (by kernel_rfl) (by kernel_rfl) ?_
  refine ql (.bool true) (by kernel_rfl) (by kernel_rfl) ?_
  refine wpList_nil ?_
  refine x_then ?_
  refine wp_cond_true (by kernel_rfl) ?_
  refine wp_seq ?_
  refine wp_region_lit ?_
  refine ql (.int .i64 0) (by kernel_rfl) (by kernel_rfl) ?_
  refine wpList_nil ?_
  refine x_then ?_
  refine wp_ret ?_
  refine x_thenR ?_
  refine ret_ (.int .i64 0) (by kernel_rfl) ?_
  exact ⟨rfl, HS⟩


set_option maxRecDepth 100000 in
set_option maxHeartbeats 1000000 in
theorem sgive_nl (gs gv : Nat) (W : World) : Calls Tryd.prog 15 #[.pointer none, .pointer (some ⟨gv, 0, none⟩)] W fun e W' => e = .returned (.bool false) ∧ St W (owns []) W' [] := by
  have HS : St W (owns []) W [] := St.start W _
  refine calls_enter [.pointer none, .pointer (some ⟨gv, 0, none⟩), undef, undef, undef, undef, undef, undef, undef, undef, undef, undef, undef, undef, undef, undef, undef, undef, undef, undef, undef, undef, undef, undef, undef, undef, undef, undef, undef, undef, undef, undef, undef, undef, undef, undef, undef, undef] Tryd.func15 rfl (by kernel_rfl) ?_
  refine wp_seq ?_
  refine wp_region_lit ?_
  refine ql (.bool false) (by kernel_rfl) (by kernel_rfl) ?_
  refine wpList_nil ?_
  refine x_then ?_
  refine wp_seq ?_
  refine wp_seq ?_
  refine t_start HS (fun _ => False) 15 (by kernel_rfl) rfl ?_
  intro W1 H_ HD_
  clear HD_
  replace HS : St W (owns []) W1 [] := H_
  clear H_
  have HV := HS
  have HK := Kpt.refl (fun _ => False) W1
  refine t_q (n := 14) 0 (.pointer none) rfl (by kernel_rfl) (by kernel_rfl) (fun _ _ _ h => h) (fun w' hk => (by kernel_rfl)) HK ?_
  refine t_q (n := 13) 1 (.bool true) rfl (by kernel_rfl) (by kernel_rfl) (fun _ _ _ h => h) (fun w' hk => (by kernel_rfl)) HK ?_
  refine t_q (n := 12) 2 (.bool true) rfl (by kernel_rfl) (by kernel_rfl) (fun _ _ _ h => h) (fun w' hk => (by kernel_rfl)) HK ?_
  refine t_qn (n := 11) 3 rfl (by kernel_rfl) (by kernel_rfl) (fun _ _ _ h => h) HK ?_
  refine t_qn (n := 10) 4 rfl (by kernel_rfl) (by kernel_rfl) (fun _ _ _ h => h) HK ?_
  refine t_q (n := 9) 5 (.bool true) rfl (by kernel_rfl) (by kernel_rfl) (fun _ _ _ h => h) (fun w' hk => (by kernel_rfl)) HK ?_
  refine t_q (n := 8) 6 (.bool true) rfl (by kernel_rfl) (by kernel_rfl) (fun _ _ _ h => h) (fun w' hk => (by kernel_rfl)) HK ?_
  refine t_qn (n := 7) 7 rfl (by kernel_rfl) (by kernel_rfl) (fun _ _ _ h => h) HK ?_
  refine t_qn (n := 6) 8 rfl (by kernel_rfl) (by kernel_rfl) (fun _ _ _ h => h) HK ?_
  refine t_qn (n := 5) 9 rfl (by kernel_rfl) (by kernel_rfl) (fun _ _ _ h => h) HK ?_
  refine t_qn (n := 4) 10 rfl (by kernel_rfl) (by kernel_rfl) (fun _ _ _ h => h) HK ?_
  refine t_qn (n := 3) 11 rfl (by kernel_rfl) (by kernel_rfl) (fun _ _ _ h => h) HK ?_
  refine t_qn (n := 2) 12 rfl (by kernel_rfl) (by kernel_rfl) (fun _ _ _ h => h) HK ?_
  refine t_qn (n := 1) 13 rfl (by kernel_rfl) (by kernel_rfl) (fun _ _ _ h => h) HK ?_
  refine t_q (n := 0) 14 (.bool true) rfl (by kernel_rfl) (by kernel_rfl) (fun _ _ _ h => h) (fun w' hk => (by kernel_rfl)) HK ?_
  refine t_done (by kernel_rfl) ?_
  clear HV HK
  refine x_then ?_
  refine wp_cond_true (by kernel_rfl) ?_
  refine wp_seq ?_
  refine wp_region_lit ?_
  refine ql (.bool false) (by kernel_rfl) (by kernel_rfl) ?_
  refine wpList_nil ?_
  refine x_then ?_
  refine wp_ret ?_
  refine x_thenR ?_
  refine ret_ (.bool false) (by kernel_rfl) ?_
  exact ⟨rfl, HS⟩

set_option maxRecDepth 100000 in
set_option maxHeartbeats 1000000 in
theorem sgive_nn (gs gv : Nat) (W : World) : Calls Tryd.prog 15 #[.pointer none, .pointer none] W fun e W' => e = .returned (.bool false) ∧ St W (owns []) W' [] := by
  have HS : St W (owns []) W [] := St.start W _
  refine calls_enter [.pointer none, .pointer none, undef, undef, undef, undef, undef, undef, undef, undef, undef, undef, undef, undef, undef, undef, undef, undef, undef, undef, undef, undef, undef, undef, undef, undef, undef, undef, undef, undef, undef, undef, undef, undef, undef, undef, undef, undef] Tryd.func15 rfl (by kernel_rfl) ?_
  refine wp_seq ?_
  refine wp_region_lit ?_
  refine ql (.bool false) (by kernel_rfl) (by kernel_rfl) ?_
  refine wpList_nil ?_
  refine x_then ?_
  refine wp_seq ?_
  refine wp_seq ?_
  refine t_start HS (fun _ => False) 15 (by kernel_rfl) rfl ?_
  intro W1 H_ HD_
  clear HD_
  replace HS : St W (owns []) W1 [] := H_
  clear H_
  have HV := HS
  have HK := Kpt.refl (fun _ => False) W1
  refine t_q (n := 14) 0 (.pointer none) rfl (by kernel_rfl) (by kernel_rfl) (fun _ _ _ h => h) (fun w' hk => (by kernel_rfl)) HK ?_
  refine t_q (n := 13) 1 (.bool true) rfl (by kernel_rfl) (by kernel_rfl) (fun _ _ _ h => h) (fun w' hk => (by kernel_rfl)) HK ?_
  refine t_q (n := 12) 2 (.bool true) rfl (by kernel_rfl) (by kernel_rfl) (fun _ _ _ h => h) (fun w' hk => (by kernel_rfl)) HK ?_
  refine t_qn (n := 11) 3 rfl (by kernel_rfl) (by kernel_rfl) (fun _ _ _ h => h) HK ?_
  refine t_qn (n := 10) 4 rfl (by kernel_rfl) (by kernel_rfl) (fun _ _ _ h => h) HK ?_
  refine t_q (n := 9) 5 (.bool true) rfl (by kernel_rfl) (by kernel_rfl) (fun _ _ _ h => h) (fun w' hk => (by kernel_rfl)) HK ?_
  refine t_q (n := 8) 6 (.bool true) rfl (by kernel_rfl) (by kernel_rfl) (fun _ _ _ h => h) (fun w' hk => (by kernel_rfl)) HK ?_
  refine t_qn (n := 7) 7 rfl (by kernel_rfl) (by kernel_rfl) (fun _ _ _ h => h) HK ?_
  refine t_qn (n := 6) 8 rfl (by kernel_rfl) (by kernel_rfl) (fun _ _ _ h => h) HK ?_
  refine t_qn (n := 5) 9 rfl (by kernel_rfl) (by kernel_rfl) (fun _ _ _ h => h) HK ?_
  refine t_qn (n := 4) 10 rfl (by kernel_rfl) (by kernel_rfl) (fun _ _ _ h => h) HK ?_
  refine t_qn (n := 3) 11 rfl (by kernel_rfl) (by kernel_rfl) (fun _ _ _ h => h) HK ?_
  refine t_qn (n := 2) 12 rfl (by kernel_rfl) (by kernel_rfl) (fun _ _ _ h => h) HK ?_
  refine t_qn (n := 1) 13 rfl (by kernel_rfl) (by kernel_rfl) (fun _ _ _ h => h) HK ?_
  refine t_q (n := 0) 14 (.bool true) rfl (by kernel_rfl) (by kernel_rfl) (fun _ _ _ h => h) (fun w' hk => (by kernel_rfl)) HK ?_
  refine t_done (by kernel_rfl) ?_
  clear HV HK
  refine x_then ?_
  refine wp_cond_true (by kernel_rfl) ?_
  refine wp_seq ?_
  refine wp_region_lit ?_
  refine ql (.bool false) (by kernel_rfl) (by kernel_rfl) ?_
  refine wpList_nil ?_
  refine x_then ?_
  refine wp_ret ?_
  refine x_thenR ?_
  refine ret_ (.bool false) (by kernel_rfl) ?_
  exact ⟨rfl, HS⟩

set_option maxRecDepth 100000 in
set_option maxHeartbeats 1000000 in
theorem sgive_nr (gs gv : Nat) (W : World) : Calls Tryd.prog 15 #[.pointer (some ⟨gs, 0, none⟩), .pointer none] W fun e W' => e = .returned (.bool false) ∧ St W (owns []) W' [] := by
  have HS : St W (owns []) W [] := St.start W _
  refine calls_enter [.pointer (some ⟨gs, 0, none⟩), .pointer none, undef, undef, undef, undef, undef, undef, undef, undef, undef, undef, undef, undef, undef, undef, undef, undef, undef, undef, undef, undef, undef, undef, undef, undef, undef, undef, undef, undef, undef, undef, undef, undef, undef, undef, undef, undef] Tryd.func15 rfl (by kernel_rfl) ?_
  refine wp_seq ?_
  refine wp_region_lit ?_
  refine ql (.bool false) (by kernel_rfl) (by kernel_rfl) ?_
  refine wpList_nil ?_
  refine x_then ?_
  refine wp_seq ?_
  refine wp_seq ?_
  refine t_start HS (fun _ => False) 15 (by kernel_rfl) rfl ?_
  intro W1 H_ HD_
  clear HD_
  replace HS : St W (owns []) W1 [] := H_
  clear H_
  have HV := HS
  have HK := Kpt.refl (fun _ => False) W1
  refine t_q (n := 14) 0 (.pointer (some ⟨gs, 0, none⟩)) rfl (by kernel_rfl) (by kernel_rfl) (fun _ _ _ h => h) (fun w' hk => (by kernel_rfl)) HK ?_
  refine t_q (n := 13) 1 (.bool false) rfl (by kernel_rfl) (by kernel_rfl) (fun _ _ _ h => h) (fun w' hk => (by kernel_rfl)) HK ?_
  refine t_q (n := 12) 2 (.bool false) rfl (by kernel_rfl) (by kernel_rfl) (fun _ _ _ h => h) (fun w' hk => (by kernel_rfl)) HK ?_
  refine t_q (n := 11) 3 (.pointer none) rfl (by kernel_rfl) (by kernel_rfl) (fun _ _ _ h => h) (fun w' hk => (by kernel_rfl)) HK ?_
  refine t_q (n := 10) 4 (.bool true) rfl (by kernel_rfl) (by kernel_rfl) (fun _ _ _ h => h) (fun w' hk => (by kernel_rfl)) HK ?_
  refine t_q (n := 9) 5 (.bool true) rfl (by kernel_rfl) (by kernel_rfl) (fun _ _ _ h => h) (fun w' hk => (by kernel_rfl)) HK ?_
  refine t_q (n := 8) 6 (.bool true) rfl (by kernel_rfl) (by kernel_rfl) (fun _ _ _ h => h) (fun w' hk => (by kernel_rfl)) HK ?_
  refine t_qn (n := 7) 7 rfl (by kernel_rfl) (by kernel_rfl) (fun _ _ _ h => h) HK ?_
  refine t_qn (n := 6) 8 rfl (by kernel_rfl) (by kernel_rfl) (fun _ _ _ h => h) HK ?_
  refine t_qn (n := 5) 9 rfl (by kernel_rfl) (by kernel_rfl) (fun _ _ _ h => h) HK ?_
  refine t_qn (n := 4) 10 rfl (by kernel_rfl) (by kernel_rfl) (fun _ _ _ h => h) HK ?_
  refine t_qn (n := 3) 11 rfl (by kernel_rfl) (by kernel_rfl) (fun _ _ _ h => h) HK ?_
  refine t_qn (n := 2) 12 rfl (by kernel_rfl) (by kernel_rfl) (fun _ _ _ h => h) HK ?_
  refine t_qn (n := 1) 13 rfl (by kernel_rfl) (by kernel_rfl) (fun _ _ _ h => h) HK ?_
  refine t_q (n := 0) 14 (.bool true) rfl (by kernel_rfl) (by kernel_rfl) (fun _ _ _ h => h) (fun w' hk => (by kernel_rfl)) HK ?_
  refine t_done (by kernel_rfl) ?_
  clear HV HK
  refine x_then ?_
  refine wp_cond_true (by kernel_rfl) ?_
  refine wp_seq ?_
  refine wp_region_lit ?_
  refine ql (.bool false) (by kernel_rfl) (by kernel_rfl) ?_
  refine wpList_nil ?_
  refine x_then ?_
  refine wp_ret ?_
  refine x_thenR ?_
  refine ret_ (.bool false) (by kernel_rfl) ?_
  exact ⟨rfl, HS⟩

set_option maxRecDepth 100000 in
set_option maxHeartbeats 1000000 in
theorem sgive_ne (gs gv : Nat) (n size : Int) (W : World) (hs1 : W.cell? ⟨gs, 1, none⟩ = some (.int .i64 size)) (hv1 : W.cell? ⟨gv, 1, none⟩ = some (.int .i64 n)) (hne : n ≠ size) : Calls Tryd.prog 15 #[.pointer (some ⟨gs, 0, none⟩), .pointer (some ⟨gv, 0, none⟩)] W fun e W' => e = .returned (.bool false) ∧ St W (owns []) W' [] := by
  have HS : St W (owns []) W [] := St.start W _
  refine calls_enter [.pointer (some ⟨gs, 0, none⟩), .pointer (some ⟨gv, 0, none⟩), undef, undef, undef, undef, undef, undef, undef, undef, undef, undef, undef, undef, undef, undef, undef, undef, undef, undef, undef, undef, undef, undef, undef, undef, undef, undef, undef, undef, undef, undef, undef, undef, undef, undef, undef, undef] Tryd.func15 rfl (by kernel_rfl) ?_
  refine wp_seq ?_
  refine wp_region_lit ?_
  refine ql (.bool false) (by kernel_rfl) (by kernel_rfl) ?_
  refine wpList_nil ?_
  refine x_then ?_
  refine wp_seq ?_
  refine wp_seq ?_
  refine t_start HS (fun _ => False) 15 (by kernel_rfl) rfl ?_
  intro W1 H_ HD_
  clear HD_
  replace HS : St W (owns []) W1 [] := H_
  clear H_
  have HV := HS
  have HK := Kpt.refl (fun _ => False) W1
  refine t_q (n := 14) 0 (.pointer (some ⟨gs, 0, none⟩)) rfl (by kernel_rfl) (by kernel_rfl) (fun _ _ _ h => h) (fun w' hk => (by kernel_rfl)) HK ?_
  refine t_q (n := 13) 1 (.bool false) rfl (by kernel_rfl) (by kernel_rfl) (fun _ _ _ h => h) (fun w' hk => (by kernel_rfl)) HK ?_
  refine t_q (n := 12) 2 (.bool false) rfl (by kernel_rfl) (by kernel_rfl) (fun _ _ _ h => h) (fun w' hk => (by kernel_rfl)) HK ?_
  refine t_q (n := 11) 3 (.pointer (some ⟨gv, 0, none⟩)) rfl (by kernel_rfl) (by kernel_rfl) (fun _ _ _ h => h) (fun w' hk => (by kernel_rfl)) HK ?_
  refine t_q (n := 10) 4 (.bool false) rfl (by kernel_rfl) (by kernel_rfl) (fun _ _ _ h => h) (fun w' hk => (by kernel_rfl)) HK ?_
  refine t_q (n := 9) 5 (.bool false) rfl (by kernel_rfl) (by kernel_rfl) (fun _ _ _ h => h) (fun w' hk => (by kernel_rfl)) HK ?_
  refine t_q (n := 8) 6 (.bool false) rfl (by kernel_rfl) (by kernel_rfl) (fun _ _ _ h => h) (fun w' hk => (by kernel_rfl)) HK ?_
  refine t_q (n := 7) 7 (.pointer (some ⟨gv, 0, none⟩)) rfl (by kernel_rfl) (by kernel_rfl) (fun _ _ _ h => h) (fun w' hk => (by kernel_rfl)) HK ?_
  refine t_q (n := 6) 9 (.pointer (some ⟨gs, 0, none⟩)) rfl (by kernel_rfl) (by kernel_rfl) (fun _ _ _ h => h) (fun w' hk => (by kernel_rfl)) HK ?_
  refine t_q (n := 5) 10 (.pointer (some ⟨gs, 0, none⟩)) rfl (by kernel_rfl) (by kernel_rfl) (fun _ _ _ h => h) (fun w' hk => (by kernel_rfl)) HK ?_
  refine t_q (n := 4) 11 (.pointer (some ⟨gs, 1, none⟩)) rfl (by kernel_rfl) (by kernel_rfl) (fun _ _ _ h => h) (fun w' hk => (by kernel_rfl)) HK ?_
  refine t_q (n := 3) 12 (.int .i64 size) rfl (by kernel_rfl) (by kernel_rfl) (fun _ _ _ h => h) (fun w' hk => (R_load (p := ⟨gs, 1, none⟩) (by kernel_rfl) (by kernel_rfl) (by kernel_rfl) (hk.cell (HV.old0 hs1)))) HK ?_
  refine t_c (n := 2) 8 (f := 21) (args := #[.pointer (some ⟨gv, 0, none⟩)]) rfl (by kernel_rfl) (by kernel_rfl) (R_call #[.pointer (some ⟨gv, 0, none⟩)] Tryd.func21 (by kernel_rfl) (by kernel_rfl) (by kernel_rfl)) ?_
  refine (dsize _ _ _ (HS.old0 hv1)).mono ?_
  rintro e W2 ⟨rfl, H_⟩
  refine ⟨_, rfl, HK.tr H_.kept.nil, ?_⟩
  replace HK := HK.tr H_.kept.nil
  replace HS : St W (owns []) W2 [] := HS.join (F := []) (G := []) H_
  clear H_
  refine t_q (n := 1) 13 (.bool true) rfl (by kernel_rfl) (by kernel_rfl) (fun _ _ _ h => h) (fun w' hk => (R_beq (b := (n != size)) (by kernel_rfl) (bne_t (by omega)))) HK ?_
  refine t_q (n := 0) 14 (.bool true) rfl (by kernel_rfl) (by kernel_rfl) (fun _ _ _ h => h) (fun w' hk => (by kernel_rfl)) HK ?_
  refine t_done (by kernel_rfl) ?_
  clear HV HK
  refine x_then ?_
  refine wp_cond_true (by kernel_rfl) ?_
  refine wp_seq ?_
  refine wp_region_lit ?_
  refine ql (.bool false) (by kernel_rfl) (by kernel_rfl) ?_
  refine wpList_nil ?_
  refine x_then ?_
  refine wp_ret ?_
  refine x_thenR ?_
  refine ret_ (.bool false) (by kernel_rfl) ?_
  exact ⟨rfl, HS⟩


set_option maxRecDepth 100000 in
set_option maxHeartbeats 1000000 in
theorem lPoolNone (n : Int) (W : World) (hT : TabAt64 W) : Calls Tryd.prog 3 #[.int .i64 n] W fun e W' => e = .returned (.bool true) ∧ St W (owns []) W' [] := by
  have HS : St W (owns []) W [] := St.start W _
  refine calls_enter ((.int .i64 n) :: undef :: undef :: undef :: undef :: undef :: undef :: undef :: undef :: undef :: undef :: undef :: undef :: undef :: undef :: undef :: undef :: undef :: undef :: undef :: undef :: undef :: undef :: undef :: undef :: undef :: undef :: undef :: undef :: undef :: undef :: undef :: undef :: undef :: undef :: undef :: undef :: undef :: undef :: undef :: undef :: undef :: undef :: undef :: undef :: undef :: undef :: undef :: undef :: undef :: undef :: undef :: undef :: undef :: undef :: undef :: undef :: undef :: undef :: undef :: undef :: undef :: undef :: undef :: undef :: undef :: undef :: undef :: undef :: undef :: undef :: undef :: undef :: undef :: undef :: undef :: undef :: undef :: undef :: undef :: undef :: undef :: undef :: undef :: undef :: undef :: undef :: undef :: undef :: undef :: undef :: undef :: undef :: undef :: undef :: undef :: undef :: undef :: undef :: undef :: undef :: undef :: undef :: []) Tryd.func3 rfl (by kernel_rfl) ?_
  refine wp_seq ?_
  refine wp_region_lit ?_
  refine ql (.bool false) (by kernel_rfl) (by kernel_rfl) ?_
  refine wpList_nil ?_
  refine x_then ?_
  refine wp_seq ?_
  refine wp_region_lit ?_
  refine ql (.pointer none) (by kernel_rfl) (by kernel_rfl) ?_
  refine wpList_nil ?_
  refine x_then ?_
  refine wp_seq ?_
  refine wp_region_lit ?_
  refine ql (.pointer none) (by kernel_rfl) (by kernel_rfl) ?_
  refine wpList_nil ?_
  refine x_then ?_
  refine wp_seq ?_
  refine wp_region_lit ?_
  refine qc (f := 8) (args := #[.int .i64 3]) (by kernel_rfl) (R_call #[.int .i64 3] Tryd.func8 (by kernel_rfl) (by kernel_rfl) (by kernel_rfl)) ?_
  refine (pnew_ok 3 _ (by decide) (by decide)).mono ?_
  rintro e W1 ⟨gq, cq, rfl, H_⟩
  refine ⟨_, rfl, ?_⟩
  replace HS : St W (owns []) W1 [blk gq [.chan (some cq)] 63, chn cq 3 (([] : List Int).map fun n : Int => Value.int .i64 n)] := HS.join (F := []) (G := [blk gq [.chan (some cq)] 63, chn cq 3 (([] : List Int).map fun n : Int => Value.int .i64 n)]) H_
  clear H_
  refine ql (.tuple #[.pointer (some ⟨gq, 0, none⟩), .int .i64 0]) (by kernel_rfl) (by kernel_rfl) ?_
  refine ql (.pointer (some ⟨gq, 0, none⟩)) (by kernel_rfl) (by kernel_rfl) ?_
  refine ql (.int .i64 0) (by kernel_rfl) (by kernel_rfl) ?_
  refine ql (.pointer (some ⟨gq, 0, none⟩)) (by kernel_rfl) (by kernel_rfl) ?_
  refine ql (.int .i64 0) (by kernel_rfl) (by kernel_rfl) ?_
  refine wpList_nil ?_
  refine x_then ?_
  refine wp_seq ?_
  refine wp_region_lit ?_
  refine ql (.pointer none) (by kernel_rfl) (by kernel_rfl) ?_
  refine qc (f := 9) (args := #[.pointer none]) (by kernel_rfl) (R_call #[.pointer none] Tryd.func9 (by kernel_rfl) (by kernel_rfl) (by kernel_rfl)) ?_
  refine (pget_nil 0 _).mono ?_
  rintro e W2 ⟨rfl, H_⟩
  refine ⟨_, rfl, ?_⟩
  replace HS : St W (owns []) W2 [blk gq [.chan (some cq)] 63, chn cq 3 (([] : List Int).map fun n : Int => Value.int .i64 n)] := HS.join (F := []) (G := []) H_
  clear H_
  refine ql (.tuple #[.int .i64 0, .bool false]) (by kernel_rfl) (by kernel_rfl) ?_
  refine ql (.int .i64 0) (by kernel_rfl) (by kernel_rfl) ?_
  refine ql (.bool false) (by kernel_rfl) (by kernel_rfl) ?_
  refine ql (.int .i64 0) (by kernel_rfl) (by kernel_rfl) ?_
  refine ql (.bool false) (by kernel_rfl) (by kernel_rfl) ?_
  refine wpList_nil ?_
  refine x_then ?_
  refine wp_seq ?_
  refine wp_seq ?_
  refine wp_region_lit ?_
  refine ql (.pointer none) (by kernel_rfl) (by kernel_rfl) ?_
  refine ql (.int .i64 n) (by kernel_rfl) (by kernel_rfl) ?_
  refine qc (f := 10) (args := #[.pointer none, .int .i64 n]) (by kernel_rfl) (R_call #[.pointer none, .int .i64 n] Tryd.func10 (by kernel_rfl) (by kernel_rfl) (by kernel_rfl)) ?_
  refine (pput_nil n _).mono ?_
  rintro e W3 ⟨rfl, H_⟩
  refine ⟨_, rfl, ?_⟩
  replace HS : St W (owns []) W3 [blk gq [.chan (some cq)] 63, chn cq 3 (([] : List Int).map fun n : Int => Value.int .i64 n)] := HS.join (F := []) (G := []) H_
  clear H_
  refine ql (.bool false) (by kernel_rfl) (by kernel_rfl) ?_
  refine ql (.int .i64 0) (by kernel_rfl) (by kernel_rfl) ?_
  refine ql (.bool false) (by kernel_rfl) (R_beq (b := ((0 : Int) != 0)) (by kernel_rfl) (by decide)) ?_
  refine ql (.bool false) (by kernel_rfl) (by kernel_rfl) ?_
  refine ql (.bool false) (by kernel_rfl) (by kernel_rfl) ?_
  refine ql (.bool false) (by kernel_rfl) (by kernel_rfl) ?_
  refine ql (.bool false) (by kernel_rfl) (by kernel_rfl) ?_
  refine ql (.bool false) (by kernel_rfl) (by kernel_rfl) ?_
  refine ql (.pointer none) (by kernel_rfl) (by kernel_rfl) ?_
  refine qc (f := 11) (args := #[.pointer none]) (by kernel_rfl) (R_call #[.pointer none] Tryd.func11 (by kernel_rfl) (by kernel_rfl) (by kernel_rfl)) ?_
  refine (plen_nil _).mono ?_
  rintro e W4 ⟨rfl, H_⟩
  refine ⟨_, rfl, ?_⟩
  replace HS : St W (owns []) W4 [blk gq [.chan (some cq)] 63, chn cq 3 (([] : List Int).map fun n : Int => Value.int .i64 n)] := HS.join (F := []) (G := []) H_
  clear H_
  refine ql (.bool false) (by kernel_rfl) (R_beq (b := ((0 : Int) != 0)) (by kernel_rfl) (by decide)) ?_
  refine ql (.bool false) (by kernel_rfl) (by kernel_rfl) ?_
  refine ql (.bool false) (by kernel_rfl) (by kernel_rfl) ?_
  refine ql (.pointer none) (by kernel_rfl) (by kernel_rfl) ?_
  refine qc (f := 12) (args := #[.pointer none]) (by kernel_rfl) (R_call #[.pointer none] Tryd.func12 (by kernel_rfl) (by kernel_rfl) (by kernel_rfl)) ?_
  refine (proom_nil _).mono ?_
  rintro e W5 ⟨rfl, H_⟩
  refine ⟨_, rfl, ?_⟩
  replace HS : St W (owns []) W5 [blk gq [.chan (some cq)] 63, chn cq 3 (([] : List Int).map fun n : Int => Value.int .i64 n)] := HS.join (F := []) (G := []) H_
  clear H_
  refine ql (.bool false) (by kernel_rfl) (R_beq (b := ((0 : Int) != 0)) (by kernel_rfl) (by decide)) ?_
  refine ql (.bool false) (by kernel_rfl) (by kernel_rfl) ?_
  refine ql (.bool false) (by kernel_rfl) (by kernel_rfl) ?_
  refine ql (.pointer none) (by kernel_rfl) (by kernel_rfl) ?_
  refine ql (.pointer (some ⟨gq, 0, none⟩)) (by kernel_rfl) (by kernel_rfl) ?_
  refine qc (f := 13) (args := #[.pointer none, .pointer (some ⟨gq, 0, none⟩)]) (by kernel_rfl) (R_call #[.pointer none, .pointer (some ⟨gq, 0, none⟩)] Tryd.func13 (by kernel_rfl) (by kernel_rfl) (by kernel_rfl)) ?_
  refine (pmove_n1 gq cq _ (HS.cell (i := 0) (j := 0) rfl rfl) (HS.get (i := 1) rfl)).mono ?_
  rintro e W6 ⟨rfl, H_⟩
  refine ⟨_, rfl, ?_⟩
  replace HS : St W (owns []) W6 [blk gq [.chan (some cq)] 63, chn cq 3 (([] : List Int).map fun n : Int => Value.int .i64 n)] := HS.join (F := []) (G := []) H_
  clear H_
  refine ql (.bool false) (by kernel_rfl) (R_beq (b := ((0 : Int) != 0)) (by kernel_rfl) (by decide)) ?_
  refine ql (.bool false) (by kernel_rfl) (by kernel_rfl) ?_
  refine ql (.bool false) (by kernel_rfl) (by kernel_rfl) ?_
  refine ql (.pointer (some ⟨gq, 0, none⟩)) (by kernel_rfl) (by kernel_rfl) ?_
  refine ql (.pointer none) (by kernel_rfl) (by kernel_rfl) ?_
  refine qc (f := 13) (args := #[.pointer (some ⟨gq, 0, none⟩), .pointer none]) (by kernel_rfl) (R_call #[.pointer (some ⟨gq, 0, none⟩), .pointer none] Tryd.func13 (by kernel_rfl) (by kernel_rfl) (by kernel_rfl)) ?_
  refine (pmove_n2 gq _).mono ?_
  rintro e W7 ⟨rfl, H_⟩
  refine ⟨_, rfl, ?_⟩
  replace HS : St W (owns []) W7 [blk gq [.chan (some cq)] 63, chn cq 3 (([] : List Int).map fun n : Int => Value.int .i64 n)] := HS.join (F := []) (G := []) H_
  clear H_
  refine ql (.bool false) (by kernel_rfl) (R_beq (b := ((0 : Int) != 0)) (by kernel_rfl) (by decide)) ?_
  refine ql (.bool false) (by kernel_rfl) (by kernel_rfl) ?_
  refine ql (.bool false) (by kernel_rfl) (by kernel_rfl) ?_
  refine ql (.pointer none) (by kernel_rfl) (by kernel_rfl) ?_
  refine qc (f := 14) (args := #[.pointer none]) (by kernel_rfl) (R_call #[.pointer none] Tryd.func14 (by kernel_rfl) (by kernel_rfl) (by kernel_rfl)) ?_
  refine (stake_nil _).mono ?_
  rintro e W8 ⟨rfl, H_⟩
  refine ⟨_, rfl, ?_⟩
  replace HS : St W (owns []) W8 [blk gq [.chan (some cq)] 63, chn cq 3 (([] : List Int).map fun n : Int => Value.int .i64 n)] := HS.join (F := []) (G := []) H_
  clear H_
  refine ql (.bool false) (by kernel_rfl) (by kernel_rfl) ?_
  refine ql (.bool false) (by kernel_rfl) (by kernel_rfl) ?_
  refine ql (.bool false) (by kernel_rfl) (by kernel_rfl) ?_
  refine ql (.pointer none) (by kernel_rfl) (by kernel_rfl) ?_
  refine qc (f := 15) (args := #[.pointer none, .pointer none]) (by kernel_rfl) (R_call #[.pointer none, .pointer none] Tryd.func15 (by kernel_rfl) (by kernel_rfl) (by kernel_rfl)) ?_
  refine (sgive_nn 0 0 _).mono ?_
  rintro e W9 ⟨rfl, H_⟩
  refine ⟨_, rfl, ?_⟩
  replace HS : St W (owns []) W9 [blk gq [.chan (some cq)] 63, chn cq 3 (([] : List Int).map fun n : Int => Value.int .i64 n)] := HS.join (F := []) (G := []) H_
  clear H_
  refine ql (.bool false) (by kernel_rfl) (by kernel_rfl) ?_
  refine ql (.bool false) (by kernel_rfl) (by kernel_rfl) ?_
  refine ql (.pointer none) (by kernel_rfl) (by kernel_rfl) ?_
  refine qc (f := 16) (args := #[.pointer none]) (by kernel_rfl) (R_call #[.pointer none] Tryd.func16 (by kernel_rfl) (by kernel_rfl) (by kernel_rfl)) ?_
  refine (smade_nil _).mono ?_
  rintro e W10 ⟨rfl, H_⟩
  refine ⟨_, rfl, ?_⟩
  replace HS : St W (owns []) W10 [blk gq [.chan (some cq)] 63, chn cq 3 (([] : List Int).map fun n : Int => Value.int .i64 n)] := HS.join (F := []) (G := []) H_
  clear H_
  refine ql (.bool false) (by kernel_rfl) (R_beq (b := ((0 : Int) != 0)) (by kernel_rfl) (by decide)) ?_
  refine ql (.bool false) (by kernel_rfl) (by kernel_rfl) ?_
  refine wpList_nil ?_
  refine x_then ?_
  refine wp_cond_false (by kernel_rfl) ?_
  refine wp_skip ?_
  refine x_then ?_
  refine wp_seq ?_
  refine wp_region_lit ?_
  refine qc (f := 17) (args := #[.int .i64 5, .int .i64 1]) (by kernel_rfl) (R_call #[.int .i64 5, .int .i64 1] Tryd.func17 (by kernel_rfl) (by kernel_rfl) (by kernel_rfl)) ?_
  refine (nsets_ok (5 : Int) (1 : Int) _ (by omega) (by omega) (by omega) (by omega)).mono ?_
  rintro e W14 ⟨gs11, gp12, c13, rfl, H_⟩
  refine ⟨_, rfl, ?_⟩
  replace HS : St W (owns []) W14 [blk gs11 [.pointer (some ⟨gp12, 0, none⟩), .int .i64 5, .int .i64 0] 67, blk gp12 [.chan (some c13)] 95, chn c13 (((1 : Int)).toNat) ((wptr ([] : List Ws)).map fun n : Nat => Value.pointer (some ⟨n, 0, none⟩)), many (rsE 77 74 5 (wRw ([] : List Ws))), blk gq [.chan (some cq)] 63, chn cq 3 (([] : List Int).map fun n : Int => Value.int .i64 n)] := HS.join (F := []) (G := [blk gs11 [.pointer (some ⟨gp12, 0, none⟩), .int .i64 5, .int .i64 0] 67, blk gp12 [.chan (some c13)] 95, chn c13 (((1 : Int)).toNat) ((wptr ([] : List Ws)).map fun n : Nat => Value.pointer (some ⟨n, 0, none⟩)), many (rsE 77 74 5 (wRw ([] : List Ws)))]) H_
  clear H_
  refine ql (.tuple #[.pointer (some ⟨gs11, 0, none⟩), .int .i64 0]) (by kernel_rfl) (by kernel_rfl) ?_
  refine ql (.pointer (some ⟨gs11, 0, none⟩)) (by kernel_rfl) (by kernel_rfl) ?_
  refine ql (.int .i64 0) (by kernel_rfl) (by kernel_rfl) ?_
  refine ql (.pointer (some ⟨gs11, 0, none⟩)) (by kernel_rfl) (by kernel_rfl) ?_
  refine ql (.int .i64 0) (by kernel_rfl) (by kernel_rfl) ?_
  refine wpList_nil ?_
  refine x_then ?_
  refine wp_seq ?_
  refine wp_region_lit ?_
  refine qc (f := 17) (args := #[.int .i64 6, .int .i64 1]) (by kernel_rfl) (R_call #[.int .i64 6, .int .i64 1] Tryd.func17 (by kernel_rfl) (by kernel_rfl) (by kernel_rfl)) ?_
  refine (nsets_ok (6 : Int) (1 : Int) _ (by omega) (by omega) (by omega) (by omega)).mono ?_
  rintro e W18 ⟨gs15, gp16, c17, rfl, H_⟩
  refine ⟨_, rfl, ?_⟩
  replace HS : St W (owns []) W18 [blk gs15 [.pointer (some ⟨gp16, 0, none⟩), .int .i64 6, .int .i64 0] 67, blk gp16 [.chan (some c17)] 95, chn c17 (((1 : Int)).toNat) ((wptr ([] : List Ws)).map fun n : Nat => Value.pointer (some ⟨n, 0, none⟩)), many (rsE 77 74 6 (wRw ([] : List Ws))), blk gs11 [.pointer (some ⟨gp12, 0, none⟩), .int .i64 5, .int .i64 0] 67, blk gp12 [.chan (some c13)] 95, chn c13 (((1 : Int)).toNat) ((wptr ([] : List Ws)).map fun n : Nat => Value.pointer (some ⟨n, 0, none⟩)), many (rsE 77 74 5 (wRw ([] : List Ws))), blk gq [.chan (some cq)] 63, chn cq 3 (([] : List Int).map fun n : Int => Value.int .i64 n)] := HS.join (F := []) (G := [blk gs15 [.pointer (some ⟨gp16, 0, none⟩), .int .i64 6, .int .i64 0] 67, blk gp16 [.chan (some c17)] 95, chn c17 (((1 : Int)).toNat) ((wptr ([] : List Ws)).map fun n : Nat => Value.pointer (some ⟨n, 0, none⟩)), many (rsE 77 74 6 (wRw ([] : List Ws)))]) H_
  clear H_
  refine ql (.tuple #[.pointer (some ⟨gs15, 0, none⟩), .int .i64 0]) (by kernel_rfl) (by kernel_rfl) ?_
  refine ql (.pointer (some ⟨gs15, 0, none⟩)) (by kernel_rfl) (by kernel_rfl) ?_
  refine ql (.int .i64 0) (by kernel_rfl) (by kernel_rfl) ?_
  refine ql (.pointer (some ⟨gs15, 0, none⟩)) (by kernel_rfl) (by kernel_rfl) ?_
  refine ql (.int .i64 0) (by kernel_rfl) (by kernel_rfl) ?_
  refine wpList_nil ?_
  refine x_then ?_
  refine wp_seq ?_
  refine wp_region_lit ?_
  refine ql (.pointer (some ⟨gs15, 0, none⟩)) (by kernel_rfl) (by kernel_rfl) ?_
  refine qc (f := 14) (args := #[.pointer (some ⟨gs15, 0, none⟩)]) (by kernel_rfl) (R_call #[.pointer (some ⟨gs15, 0, none⟩)] Tryd.func14 (by kernel_rfl) (by kernel_rfl) (by kernel_rfl)) ?_
  refine (stake_new gs15 gp16 c17 (((1 : Int)).toNat) (6 : Int) (0 : Int) _ _ (St.focus (F := [blk gs15 [.pointer (some ⟨gp16, 0, none⟩), .int .i64 6, .int .i64 0] 67, blk gp16 [.chan (some c17)] 95, chn c17 (((1 : Int)).toNat) ((wptr ([] : List Ws)).map fun n : Nat => Value.pointer (some ⟨n, 0, none⟩)), many (rsE 77 74 6 (wRw ([] : List Ws)))]) HS) (by omega) (by omega) (by omega) (by omega)).mono ?_
  rintro e W24 ⟨g19, a20, c21, ws22, rfl, H_, hR23⟩
  refine ⟨_, rfl, ?_⟩
  replace HS : St W (owns []) W24 [blk g19 [.slice (some ⟨a20, 0, none⟩) ws22.length c21, .int .i64 6] 77, row (some ⟨a20, 0, none⟩) ws22.length c21 (ci .u64 ws22) 74 1, blk gs15 [.pointer (some ⟨gp16, 0, none⟩), .int .i64 6, .int .i64 (0 + 1)] 67, blk gp16 [.chan (some c17)] 95, chn c17 (((1 : Int)).toNat) ((wptr ([] : List Ws)).map fun n : Nat => Value.pointer (some ⟨n, 0, none⟩)), many (rsE 77 74 6 (wRw ([] : List Ws))), blk gs11 [.pointer (some ⟨gp12, 0, none⟩), .int .i64 5, .int .i64 0] 67, blk gp12 [.chan (some c13)] 95, chn c13 (((1 : Int)).toNat) ((wptr ([] : List Ws)).map fun n : Nat => Value.pointer (some ⟨n, 0, none⟩)), many (rsE 77 74 5 (wRw ([] : List Ws))), blk gq [.chan (some cq)] 63, chn cq 3 (([] : List Int).map fun n : Int => Value.int .i64 n)] := HS.join (F := [blk gs15 [.pointer (some ⟨gp16, 0, none⟩), .int .i64 6, .int .i64 0] 67, blk gp16 [.chan (some c17)] 95, chn c17 (((1 : Int)).toNat) ((wptr ([] : List Ws)).map fun n : Nat => Value.pointer (some ⟨n, 0, none⟩)), many (rsE 77 74 6 (wRw ([] : List Ws)))]) (G := [blk g19 [.slice (some ⟨a20, 0, none⟩) ws22.length c21, .int .i64 6] 77, row (some ⟨a20, 0, none⟩) ws22.length c21 (ci .u64 ws22) 74 1, blk gs15 [.pointer (some ⟨gp16, 0, none⟩), .int .i64 6, .int .i64 (0 + 1)] 67, blk gp16 [.chan (some c17)] 95, chn c17 (((1 : Int)).toNat) ((wptr ([] : List Ws)).map fun n : Nat => Value.pointer (some ⟨n, 0, none⟩)), many (rsE 77 74 6 (wRw ([] : List Ws)))]) H_
  clear H_
  refine ql (.pointer (some ⟨g19, 0, none⟩)) (by kernel_rfl) (by kernel_rfl) ?_
  refine wpList_nil ?_
  refine x_then ?_
  refine wp_seq ?_
  refine wp_region_lit ?_
  refine ql (.pointer (some ⟨g19, 0, none⟩)) (by kernel_rfl) (by kernel_rfl) ?_
  refine qc (f := 18) (args := #[.pointer (some ⟨g19, 0, none⟩), .int .i64 5]) (by kernel_rfl) (R_call #[.pointer (some ⟨g19, 0, none⟩), .int .i64 5] Tryd.func18 (by kernel_rfl) (by kernel_rfl) (by kernel_rfl)) ?_
  refine (daddu g19 c21 (some ⟨a20, 0, none⟩) ws22 (6 : Int) ([]) (5 : Int) _ _ (St.focus (F := [blk g19 [.slice (some ⟨a20, 0, none⟩) ws22.length c21, .int .i64 6] 77, row (some ⟨a20, 0, none⟩) ws22.length c21 (ci .u64 ws22) 74 1]) HS) hR23 (by omega)).mono ?_
  rintro e W27 ⟨ws25, rfl, H_, hR26⟩
  refine ⟨_, rfl, ?_⟩
  replace HS : St W (owns []) W27 [blk g19 [.slice (some ⟨a20, 0, none⟩) ws25.length c21, .int .i64 6] 77, row (some ⟨a20, 0, none⟩) ws25.length c21 (ci .u64 ws25) 74 1, blk gs15 [.pointer (some ⟨gp16, 0, none⟩), .int .i64 6, .int .i64 (0 + 1)] 67, blk gp16 [.chan (some c17)] 95, chn c17 (((1 : Int)).toNat) ((wptr ([] : List Ws)).map fun n : Nat => Value.pointer (some ⟨n, 0, none⟩)), many (rsE 77 74 6 (wRw ([] : List Ws))), blk gs11 [.pointer (some ⟨gp12, 0, none⟩), .int .i64 5, .int .i64 0] 67, blk gp12 [.chan (some c13)] 95, chn c13 (((1 : Int)).toNat) ((wptr ([] : List Ws)).map fun n : Nat => Value.pointer (some ⟨n, 0, none⟩)), many (rsE 77 74 5 (wRw ([] : List Ws))), blk gq [.chan (some cq)] 63, chn cq 3 (([] : List Int).map fun n : Int => Value.int .i64 n)] := HS.join (F := [blk g19 [.slice (some ⟨a20, 0, none⟩) ws22.length c21, .int .i64 6] 77, row (some ⟨a20, 0, none⟩) ws22.length c21 (ci .u64 ws22) 74 1]) (G := [blk g19 [.slice (some ⟨a20, 0, none⟩) ws25.length c21, .int .i64 6] 77, row (some ⟨a20, 0, none⟩) ws25.length c21 (ci .u64 ws25) 74 1]) H_
  clear H_
  refine wpList_nil ?_
  refine x_then ?_
  refine wp_seq ?_
  refine wp_region_lit ?_
  refine ql (.pointer (some ⟨gs11, 0, none⟩)) (by kernel_rfl) (by kernel_rfl) ?_
  refine ql (.pointer (some ⟨g19, 0, none⟩)) (by kernel_rfl) (by kernel_rfl) ?_
  refine qc (f := 15) (args := #[.pointer (some ⟨gs11, 0, none⟩), .pointer (some ⟨g19, 0, none⟩)]) (by kernel_rfl) (R_call #[.pointer (some ⟨gs11, 0, none⟩), .pointer (some ⟨g19, 0, none⟩)] Tryd.func15 (by kernel_rfl) (by kernel_rfl) (by kernel_rfl)) ?_
  refine (sgive_ne gs11 g19 6 5 _ (HS.cell (i := 6) (j := 1) rfl rfl) (HS.cell (i := 0) (j := 1) rfl rfl) (by omega)).mono ?_
  rintro e W28 ⟨rfl, H_⟩
  refine ⟨_, rfl, ?_⟩
  replace HS : St W (owns []) W28 [blk g19 [.slice (some ⟨a20, 0, none⟩) ws25.length c21, .int .i64 6] 77, row (some ⟨a20, 0, none⟩) ws25.length c21 (ci .u64 ws25) 74 1, blk gs15 [.pointer (some ⟨gp16, 0, none⟩), .int .i64 6, .int .i64 (0 + 1)] 67, blk gp16 [.chan (some c17)] 95, chn c17 (((1 : Int)).toNat) ((wptr ([] : List Ws)).map fun n : Nat => Value.pointer (some ⟨n, 0, none⟩)), many (rsE 77 74 6 (wRw ([] : List Ws))), blk gs11 [.pointer (some ⟨gp12, 0, none⟩), .int .i64 5, .int .i64 0] 67, blk gp12 [.chan (some c13)] 95, chn c13 (((1 : Int)).toNat) ((wptr ([] : List Ws)).map fun n : Nat => Value.pointer (some ⟨n, 0, none⟩)), many (rsE 77 74 5 (wRw ([] : List Ws))), blk gq [.chan (some cq)] 63, chn cq 3 (([] : List Int).map fun n : Int => Value.int .i64 n)] := HS.join (F := []) (G := []) H_
  clear H_
  refine ql (.bool true) (by kernel_rfl) (by kernel_rfl) ?_
  refine ql (.bool true) (by kernel_rfl) (by kernel_rfl) ?_
  refine ql (.pointer (some ⟨gs11, 0, none⟩)) (by kernel_rfl) (by kernel_rfl) ?_
  refine qc (f := 15) (args := #[.pointer (some ⟨gs11, 0, none⟩), .pointer none]) (by kernel_rfl) (R_call #[.pointer (some ⟨gs11, 0, none⟩), .pointer none] Tryd.func15 (by kernel_rfl) (by kernel_rfl) (by kernel_rfl)) ?_
  refine (sgive_nr gs11 0 _).mono ?_
  rintro e W29 ⟨rfl, H_⟩
  refine ⟨_, rfl, ?_⟩
  replace HS : St W (owns []) W29 [blk g19 [.slice (some ⟨a20, 0, none⟩) ws25.length c21, .int .i64 6] 77, row (some ⟨a20, 0, none⟩) ws25.length c21 (ci .u64 ws25) 74 1, blk gs15 [.pointer (some ⟨gp16, 0, none⟩), .int .i64 6, .int .i64 (0 + 1)] 67, blk gp16 [.chan (some c17)] 95, chn c17 (((1 : Int)).toNat) ((wptr ([] : List Ws)).map fun n : Nat => Value.pointer (some ⟨n, 0, none⟩)), many (rsE 77 74 6 (wRw ([] : List Ws))), blk gs11 [.pointer (some ⟨gp12, 0, none⟩), .int .i64 5, .int .i64 0] 67, blk gp12 [.chan (some c13)] 95, chn c13 (((1 : Int)).toNat) ((wptr ([] : List Ws)).map fun n : Nat => Value.pointer (some ⟨n, 0, none⟩)), many (rsE 77 74 5 (wRw ([] : List Ws))), blk gq [.chan (some cq)] 63, chn cq 3 (([] : List Int).map fun n : Int => Value.int .i64 n)] := HS.join (F := []) (G := []) H_
  clear H_
  refine ql (.bool true) (by kernel_rfl) (by kernel_rfl) ?_
  refine ql (.bool true) (by kernel_rfl) (by kernel_rfl) ?_
  refine ql (.bool true) (by kernel_rfl) (by kernel_rfl) ?_
  refine ql (.pointer (some ⟨g19, 0, none⟩)) (by kernel_rfl) (by kernel_rfl) ?_
  refine qc (f := 19) (args := #[.pointer (some ⟨g19, 0, none⟩), .int .i64 5]) (by kernel_rfl) (R_call #[.pointer (some ⟨g19, 0, none⟩), .int .i64 5] Tryd.func19 (by kernel_rfl) (by kernel_rfl) (by kernel_rfl)) ?_
  refine (dhasd g19 c21 (some ⟨a20, 0, none⟩) ws25 (6 : Int) (addL (6 : Int) ([]) (5 : Int)) 5 _ (HS.cell (i := 0) (j := 0) rfl rfl) (HS.cell (i := 0) (j := 1) rfl rfl) (Rd.row HS (i := 1) rfl) hR26 (by omega)).mono ?_
  rintro e W30 ⟨rfl, H_⟩
  rw [show decide ((5 : Int) ∈ (addL (6 : Int) ([]) (5 : Int))) = true by decide]
  refine ⟨_, rfl, ?_⟩
  replace HS : St W (owns []) W30 [blk g19 [.slice (some ⟨a20, 0, none⟩) ws25.length c21, .int .i64 6] 77, row (some ⟨a20, 0, none⟩) ws25.length c21 (ci .u64 ws25) 74 1, blk gs15 [.pointer (some ⟨gp16, 0, none⟩), .int .i64 6, .int .i64 (0 + 1)] 67, blk gp16 [.chan (some c17)] 95, chn c17 (((1 : Int)).toNat) ((wptr ([] : List Ws)).map fun n : Nat => Value.pointer (some ⟨n, 0, none⟩)), many (rsE 77 74 6 (wRw ([] : List Ws))), blk gs11 [.pointer (some ⟨gp12, 0, none⟩), .int .i64 5, .int .i64 0] 67, blk gp12 [.chan (some c13)] 95, chn c13 (((1 : Int)).toNat) ((wptr ([] : List Ws)).map fun n : Nat => Value.pointer (some ⟨n, 0, none⟩)), many (rsE 77 74 5 (wRw ([] : List Ws))), blk gq [.chan (some cq)] 63, chn cq 3 (([] : List Int).map fun n : Int => Value.int .i64 n)] := HS.join (F := []) (G := []) H_
  clear H_
  refine ql (.bool true) (by kernel_rfl) (by kernel_rfl) ?_
  refine ql (.bool true) (by kernel_rfl) (by kernel_rfl) ?_
  refine ql (.pointer none) (by kernel_rfl) (by kernel_rfl) ?_
  refine ql (.pointer (some ⟨g19, 0, none⟩)) (by kernel_rfl) (by kernel_rfl) ?_
  refine qc (f := 15) (args := #[.pointer none, .pointer (some ⟨g19, 0, none⟩)]) (by kernel_rfl) (R_call #[.pointer none, .pointer (some ⟨g19, 0, none⟩)] Tryd.func15 (by kernel_rfl) (by kernel_rfl) (by kernel_rfl)) ?_
  refine (sgive_nl 0 g19 _).mono ?_
  rintro e W31 ⟨rfl, H_⟩
  refine ⟨_, rfl, ?_⟩
  replace HS : St W (owns []) W31 [blk g19 [.slice (some ⟨a20, 0, none⟩) ws25.length c21, .int .i64 6] 77, row (some ⟨a20, 0, none⟩) ws25.length c21 (ci .u64 ws25) 74 1, blk gs15 [.pointer (some ⟨gp16, 0, none⟩), .int .i64 6, .int .i64 (0 + 1)] 67, blk gp16 [.chan (some c17)] 95, chn c17 (((1 : Int)).toNat) ((wptr ([] : List Ws)).map fun n : Nat => Value.pointer (some ⟨n, 0, none⟩)), many (rsE 77 74 6 (wRw ([] : List Ws))), blk gs11 [.pointer (some ⟨gp12, 0, none⟩), .int .i64 5, .int .i64 0] 67, blk gp12 [.chan (some c13)] 95, chn c13 (((1 : Int)).toNat) ((wptr ([] : List Ws)).map fun n : Nat => Value.pointer (some ⟨n, 0, none⟩)), many (rsE 77 74 5 (wRw ([] : List Ws))), blk gq [.chan (some cq)] 63, chn cq 3 (([] : List Int).map fun n : Int => Value.int .i64 n)] := HS.join (F := []) (G := []) H_
  clear H_
  refine ql (.bool true) (by kernel_rfl) (by kernel_rfl) ?_
  refine ql (.bool true) (by kernel_rfl) (by kernel_rfl) ?_
  refine ql (.bool true) (by kernel_rfl) (by kernel_rfl) ?_
  refine qc (f := 20) (args := #[]) (by kernel_rfl) (R_call #[] Tryd.func20 (by kernel_rfl) (by kernel_rfl) (by kernel_rfl)) ?_
  refine (awake39 _).mono ?_
  rintro e W32 ⟨rfl, H_⟩
  refine ⟨_, rfl, ?_⟩
  replace HS : St W (owns []) W32 [blk g19 [.slice (some ⟨a20, 0, none⟩) ws25.length c21, .int .i64 6] 77, row (some ⟨a20, 0, none⟩) ws25.length c21 (ci .u64 ws25) 74 1, blk gs15 [.pointer (some ⟨gp16, 0, none⟩), .int .i64 6, .int .i64 (0 + 1)] 67, blk gp16 [.chan (some c17)] 95, chn c17 (((1 : Int)).toNat) ((wptr ([] : List Ws)).map fun n : Nat => Value.pointer (some ⟨n, 0, none⟩)), many (rsE 77 74 6 (wRw ([] : List Ws))), blk gs11 [.pointer (some ⟨gp12, 0, none⟩), .int .i64 5, .int .i64 0] 67, blk gp12 [.chan (some c13)] 95, chn c13 (((1 : Int)).toNat) ((wptr ([] : List Ws)).map fun n : Nat => Value.pointer (some ⟨n, 0, none⟩)), many (rsE 77 74 5 (wRw ([] : List Ws))), blk gq [.chan (some cq)] 63, chn cq 3 (([] : List Int).map fun n : Int => Value.int .i64 n)] := HS.join (F := []) (G := []) H_
  clear H_
  refine ql (.bool true) (by kernel_rfl) (by kernel_rfl) ?_
  refine ql (.bool true) (by kernel_rfl) (by kernel_rfl) ?_
  refine wpList_nil ?_
  refine x_then ?_
  refine wp_ret ?_
  refine ret_ (.bool true) (by kernel_rfl) ?_
  replace HS := HS.drop1
  replace HS := HS.drop1
  replace HS := HS.drop1
  replace HS := HS.drop1
  replace HS := HS.drop1
  replace HS := HS.drop1
  replace HS := HS.drop1
  replace HS := HS.drop1
  replace HS := HS.drop1
  replace HS := HS.drop1
  replace HS := HS.drop1
  replace HS := HS.drop1
  exact ⟨rfl, HS⟩

end Go.Proofs.YtgoapobflajliaaDoor
