/- The law MixedSame holds at every input. This text: the walks through the functions that the statement reaches. No condition but those in the statement. -/
import Derived.WalkKit
import Derived.StillTailTactics
import Derived.Deep.LoopGhost
import Derived.KernelRfl
import Derived.Deep.OwnRows
import Derived.Laws.OwnMore
import Derived.Laws.MakeOwn
import Derived.Maps.AppendAt
import Derived.OrdersHeld
import Derived.Test.YtdiodmdohkjafaaDoorProg
import Derived.Test.YtdiodmdohkjafaaDoorHa
import Derived.Test.YtdiodmdohkjafaaDoorHb
namespace Go.Proofs.YtdiodmdohkjafaaDoor
open Go Go.RowKit Go.Shelf Go.Proofs.YtdiodmdohkjafaaDoor.Hp
attribute [local irreducible] wpStill wpList Code.wp TA
set_option linter.unusedVariables false
set_option linter.unusedSimpArgs false
set_option maxRecDepth 100000 in
set_option maxHeartbeats 1000000 in
theorem mwid_s (g q c : Nat) (A : Option Addr) (n : Int) (L : List Int) (W : World) (M : Nat → Prop) (HS : St W M W [blk g [.pointer (some ⟨q, 0, none⟩), .pointer none, .int .i64 n] 53, blk q [.slice A L.length c] 74, row A L.length c (ci .i32 L) 21 1]) (hs : S31 L) (hlim : ∀ x ∈ L, x < n) (h0 : 0 ≤ n) (hn : n ≤ 1048576) (hl : L.length ≤ 8) : Calls Tryd.prog 32 #[.pointer (some ⟨g, 0, none⟩)] W fun e W' => ∃ x', e = .returned (.tuple #[]) ∧ St W M W' [many (mxE 53 74 21 62 63 g n L x')] ∧ x'.ok n L ∧ x'.b = decide (8 < L.length) := by
  refine calls_enterM [.pointer (some ⟨g, 0, none⟩), undef, undef, undef, undef, undef, undef, undef, undef, undef, undef, undef, undef, undef, undef, undef, undef, undef, undef, undef, undef, undef, undef, undef, undef, undef, undef, undef, undef, undef, undef, undef, undef, undef, undef, undef, undef, undef, undef, undef, undef, undef] Tryd.func32 rfl (by kernel_rfl) ?_
  refine wp_seq ?_
  refine wp_region_lit ?_
  refine kb HS [.pointer (some ⟨g, 0, none⟩)] 24 (fun g => .pointer (some ⟨g, 0, none⟩)) (by kernel_rfl) (by kernel_rfl) ?_
  intro g1 W2 H_
  replace HS : St W M W2 [blk g1 [.pointer (some ⟨g, 0, none⟩)] 24, blk g [.pointer (some ⟨q, 0, none⟩), .pointer none, .int .i64 n] 53, blk q [.slice A L.length c] 74, row A L.length c (ci .i32 L) 21 1] := H_
  clear H_
  refine wpList_nil ?_
  refine x_then ?_
  refine wp_seq ?_
  refine wp_seq ?_
  refine wp_region_lit ?_
  refine ql (.pointer (some ⟨g, 0, none⟩)) (by kernel_rfl) (R_load (p := ⟨g1, 0, none⟩) (by kernel_rfl) (by kernel_rfl) (by kernel_rfl) (HS.cell (i := 0) (j := 0) rfl rfl)) ?_
  refine ql (.pointer (some ⟨g, 0, none⟩)) (by kernel_rfl) (by kernel_rfl) ?_
  refine ql (.pointer (some ⟨g, 1, none⟩)) (by kernel_rfl) (by kernel_rfl) ?_
  refine ql (.pointer none) (by kernel_rfl) (R_load (p := ⟨g, 1, none⟩) (by kernel_rfl) (by kernel_rfl) (by kernel_rfl) (HS.cell (i := 1) (j := 1) rfl rfl)) ?_
  refine ql (.bool false) (by kernel_rfl) (by kernel_rfl) ?_
  refine ql (.bool false) (by kernel_rfl) (by kernel_rfl) ?_
  refine ql (.pointer (some ⟨g, 0, none⟩)) (by kernel_rfl) (R_load (p := ⟨g1, 0, none⟩) (by kernel_rfl) (by kernel_rfl) (by kernel_rfl) (HS.cell (i := 0) (j := 0) rfl rfl)) ?_
  refine ql (.pointer (some ⟨g, 0, none⟩)) (by kernel_rfl) (by kernel_rfl) ?_
  refine ql (.pointer (some ⟨g, 0, none⟩)) (by kernel_rfl) (by kernel_rfl) ?_
  refine ql (.pointer (some ⟨q, 0, none⟩)) (by kernel_rfl) (R_load (p := ⟨g, 0, none⟩) (by kernel_rfl) (by kernel_rfl) (by kernel_rfl) (HS.cell (i := 1) (j := 0) rfl rfl)) ?_
  refine qc (f := 34) (args := #[.pointer (some ⟨q, 0, none⟩)]) (by kernel_rfl) (R_call #[.pointer (some ⟨q, 0, none⟩)] Tryd.func34 (by kernel_rfl) (by kernel_rfl) (by kernel_rfl)) ?_
  refine (slen q c A L _ (HS.cell (i := 2) (j := 0) rfl rfl) (Rd.row HS (i := 3) rfl) hs (by omega)).mono ?_
  rintro e W3 ⟨rfl, H_⟩
  refine ⟨_, rfl, ?_⟩
  replace HS : St W M W3 [blk g1 [.pointer (some ⟨g, 0, none⟩)] 24, blk g [.pointer (some ⟨q, 0, none⟩), .pointer none, .int .i64 n] 53, blk q [.slice A L.length c] 74, row A L.length c (ci .i32 L) 21 1] := HS.join (F := []) (G := []) H_
  clear H_
  refine ql (.bool true) (by kernel_rfl) (R_bool (p := (L.length : Int) ≤ (8 : Int)) (by kernel_rfl) (by omega)) ?_
  refine ql (.bool true) (by kernel_rfl) (by kernel_rfl) ?_
  refine wpList_nil ?_
  refine x_then ?_
  refine wp_cond_true (by kernel_rfl) ?_
  refine wp_ret ?_
  refine x_thenR ?_
  refine retM_ (.tuple #[]) (by kernel_rfl) ?_
  replace HS := HS.drop1
  exact ⟨.few q c A, rfl, St.close1 HS, ⟨hs, hlim, hl⟩, by rw [decide_eq_false (by omega)]; rfl⟩

set_option maxRecDepth 100000 in
set_option maxHeartbeats 1000000 in
theorem mwid_b (g q c : Nat) (A : Option Addr) (n : Int) (L : List Int) (W : World) (M : Nat → Prop) (HS : St W M W [blk g [.pointer (some ⟨q, 0, none⟩), .pointer none, .int .i64 n] 53, blk q [.slice A L.length c] 74, row A L.length c (ci .i32 L) 21 1]) (hs : S31 L) (hlim : ∀ x ∈ L, x < n) (h0 : 0 ≤ n) (hn : n ≤ 1048576) (hl : 8 < L.length) (hl2 : L.length ≤ 100000) : Calls Tryd.prog 32 #[.pointer (some ⟨g, 0, none⟩)] W fun e W' => ∃ x', e = .returned (.tuple #[]) ∧ St W M W' [many (mxE 53 74 21 62 63 g n L x')] ∧ x'.ok n L ∧ x'.b = decide (8 < L.length) := by
  refine calls_enterM [.pointer (some ⟨g, 0, none⟩), undef, undef, undef, undef, undef, undef, undef, undef, undef, undef, undef, undef, undef, undef, undef, undef, undef, undef, undef, undef, undef, undef, undef, undef, undef, undef, undef, undef, undef, undef, undef, undef, undef, undef, undef, undef, undef, undef, undef, undef, undef] Tryd.func32 rfl (by kernel_rfl) ?_
  refine wp_seq ?_
  refine wp_region_lit ?_
  refine kb HS [.pointer (some ⟨g, 0, none⟩)] 24 (fun g => .pointer (some ⟨g, 0, none⟩)) (by kernel_rfl) (by kernel_rfl) ?_
  intro g1 W2 H_
  replace HS : St W M W2 [blk g1 [.pointer (some ⟨g, 0, none⟩)] 24, blk g [.pointer (some ⟨q, 0, none⟩), .pointer none, .int .i64 n] 53, blk q [.slice A L.length c] 74, row A L.length c (ci .i32 L) 21 1] := H_
  clear H_
  refine wpList_nil ?_
  refine x_then ?_
  refine wp_seq ?_
  refine wp_seq ?_
  refine wp_region_lit ?_
  refine ql (.pointer (some ⟨g, 0, none⟩)) (by kernel_rfl) (R_load (p := ⟨g1, 0, none⟩) (by kernel_rfl) (by kernel_rfl) (by kernel_rfl) (HS.cell (i := 0) (j := 0) rfl rfl)) ?_
  refine ql (.pointer (some ⟨g, 0, none⟩)) (by kernel_rfl) (by kernel_rfl) ?_
  refine ql (.pointer (some ⟨g, 1, none⟩)) (by kernel_rfl) (by kernel_rfl) ?_
  refine ql (.pointer none) (by kernel_rfl) (R_load (p := ⟨g, 1, none⟩) (by kernel_rfl) (by kernel_rfl) (by kernel_rfl) (HS.cell (i := 1) (j := 1) rfl rfl)) ?_
  refine ql (.bool false) (by kernel_rfl) (by kernel_rfl) ?_
  refine ql (.bool false) (by kernel_rfl) (by kernel_rfl) ?_
  refine ql (.pointer (some ⟨g, 0, none⟩)) (by kernel_rfl) (R_load (p := ⟨g1, 0, none⟩) (by kernel_rfl) (by kernel_rfl) (by kernel_rfl) (HS.cell (i := 0) (j := 0) rfl rfl)) ?_
  refine ql (.pointer (some ⟨g, 0, none⟩)) (by kernel_rfl) (by kernel_rfl) ?_
  refine ql (.pointer (some ⟨g, 0, none⟩)) (by kernel_rfl) (by kernel_rfl) ?_
  refine ql (.pointer (some ⟨q, 0, none⟩)) (by kernel_rfl) (R_load (p := ⟨g, 0, none⟩) (by kernel_rfl) (by kernel_rfl) (by kernel_rfl) (HS.cell (i := 1) (j := 0) rfl rfl)) ?_
  refine qc (f := 34) (args := #[.pointer (some ⟨q, 0, none⟩)]) (by kernel_rfl) (R_call #[.pointer (some ⟨q, 0, none⟩)] Tryd.func34 (by kernel_rfl) (by kernel_rfl) (by kernel_rfl)) ?_
  refine (slen q c A L _ (HS.cell (i := 2) (j := 0) rfl rfl) (Rd.row HS (i := 3) rfl) hs (by omega)).mono ?_
  rintro e W3 ⟨rfl, H_⟩
  refine ⟨_, rfl, ?_⟩
  replace HS : St W M W3 [blk g1 [.pointer (some ⟨g, 0, none⟩)] 24, blk g [.pointer (some ⟨q, 0, none⟩), .pointer none, .int .i64 n] 53, blk q [.slice A L.length c] 74, row A L.length c (ci .i32 L) 21 1] := HS.join (F := []) (G := []) H_
  clear H_
  refine ql (.bool false) (by kernel_rfl) (R_nbool (p := (L.length : Int) ≤ (8 : Int)) (by kernel_rfl) (by omega)) ?_
  refine ql (.bool false) (by kernel_rfl) (by kernel_rfl) ?_
  refine wpList_nil ?_
  refine x_then ?_
  refine wp_cond_false (by kernel_rfl) ?_
  refine wp_skip ?_
  refine x_then ?_
  refine wp_seq ?_
  replace HS : St W M W3 [blk g [.pointer (some ⟨q, 0, none⟩), .pointer none, .int .i64 n] 53, blk g1 [.pointer (some ⟨g, 0, none⟩)] 24, blk q [.slice A L.length c] 74, row A L.length c (ci .i32 L) 21 1] := HS.perm (perm_ [1, 0, 2, 3] (by kernel_rfl) rfl)
  refine t_start HS (fun k_ => (blk g [.pointer (some ⟨q, 0, none⟩), .pointer none, .int .i64 n] 53).own k_) 12 (by kernel_rfl) rfl ?_
  intro W4 H_ HD_
  clear HD_
  replace HS : St W M W4 [blk g [.pointer (some ⟨q, 0, none⟩), .pointer none, .int .i64 n] 53, blk g1 [.pointer (some ⟨g, 0, none⟩)] 24, blk q [.slice A L.length c] 74, row A L.length c (ci .i32 L) 21 1] := H_
  clear H_
  have HV := HS
  have HK := Kpt.refl (fun k_ => (blk g [.pointer (some ⟨q, 0, none⟩), .pointer none, .int .i64 n] 53).own k_) W4
  refine t_q (n := 11) 0 (.pointer (some ⟨g, 0, none⟩)) rfl (by kernel_rfl) (by kernel_rfl) (fun _ _ _ h => h) (fun w' hk => (R_load (p := ⟨g1, 0, none⟩) (by kernel_rfl) (by kernel_rfl) (by kernel_rfl) (hk.cellN (HV.sepB (a := 1) (b := 0) (by decide) rfl rfl) (HV.cell (i := 1) (j := 0) rfl rfl)))) HK ?_
  refine t_q (n := 10) 1 (.pointer (some ⟨g, 0, none⟩)) rfl (by kernel_rfl) (by kernel_rfl) (fun _ _ _ h => h) (fun w' hk => (R_load (p := ⟨g1, 0, none⟩) (by kernel_rfl) (by kernel_rfl) (by kernel_rfl) (hk.cellN (HV.sepB (a := 1) (b := 0) (by decide) rfl rfl) (HV.cell (i := 1) (j := 0) rfl rfl)))) HK ?_
  refine t_q (n := 9) 2 (.pointer (some ⟨g, 0, none⟩)) rfl (by kernel_rfl) (by kernel_rfl) (fun _ _ _ h => h) (fun w' hk => (by kernel_rfl)) HK ?_
  refine t_q (n := 8) 3 (.pointer (some ⟨g, 2, none⟩)) rfl (by kernel_rfl) (by kernel_rfl) (fun _ _ _ h => h) (fun w' hk => (by kernel_rfl)) HK ?_
  refine t_e (n := 7) 4 (.int .i64 n) rfl (by kernel_rfl) (by kernel_rfl) (R_load (p := ⟨g, 2, none⟩) (by kernel_rfl) (by kernel_rfl) (by kernel_rfl) (HS.cell (i := 0) (j := 2) rfl rfl)) HK ?_
  refine t_c (n := 6) 5 (f := 10) (args := #[.int .i64 n]) rfl (by kernel_rfl) (by kernel_rfl) (R_call #[.int .i64 n] Tryd.func10 (by kernel_rfl) (by kernel_rfl) (by kernel_rfl)) ?_
  refine (dnew_ok n _ (by omega) (by omega)).mono ?_
  rintro e W10 ⟨g5, a6, c7, ws8, rfl, H_, hR9⟩
  refine ⟨_, rfl, HK.tr H_.kept.nil, ?_⟩
  replace HK := HK.tr H_.kept.nil
  replace HS : St W M W10 [blk g5 [.slice (some ⟨a6, 0, none⟩) ws8.length c7, .int .i64 n] 62, row (some ⟨a6, 0, none⟩) ws8.length c7 (ci .u64 ws8) 63 1, blk g [.pointer (some ⟨q, 0, none⟩), .pointer none, .int .i64 n] 53, blk g1 [.pointer (some ⟨g, 0, none⟩)] 24, blk q [.slice A L.length c] 74, row A L.length c (ci .i32 L) 21 1] := HS.join (F := []) (G := [blk g5 [.slice (some ⟨a6, 0, none⟩) ws8.length c7, .int .i64 n] 62, row (some ⟨a6, 0, none⟩) ws8.length c7 (ci .u64 ws8) 63 1]) H_
  clear H_
  refine t_q (n := 5) 6 (.tuple #[.pointer (some ⟨g5, 0, none⟩), .int .i64 0]) rfl (by kernel_rfl) (by kernel_rfl) (fun _ _ _ h => h) (fun w' hk => (by kernel_rfl)) HK ?_
  refine t_q (n := 4) 7 (.pointer (some ⟨g5, 0, none⟩)) rfl (by kernel_rfl) (by kernel_rfl) (fun _ _ _ h => h) (fun w' hk => (by kernel_rfl)) HK ?_
  refine t_q (n := 3) 8 (.int .i64 0) rfl (by kernel_rfl) (by kernel_rfl) (fun _ _ _ h => h) (fun w' hk => (by kernel_rfl)) HK ?_
  refine t_q (n := 2) 9 (.pointer (some ⟨g, 0, none⟩)) rfl (by kernel_rfl) (by kernel_rfl) (fun _ _ _ h => h) (fun w' hk => (by kernel_rfl)) HK ?_
  refine t_q (n := 1) 10 (.pointer (some ⟨g, 1, none⟩)) rfl (by kernel_rfl) (by kernel_rfl) (fun _ _ _ h => h) (fun w' hk => (by kernel_rfl)) HK ?_
  obtain ⟨W11, hrun_, H_, hk_⟩ := ex_ks (P := Tryd.prog) (ty := 0) (ps := "mixed.go:61") (af := #[{ on := 10, ground := Go.Ground.data }, { on := 7, ground := Go.Ground.data }, { on := 5, ground := Go.Ground.chain }, { on := 0, ground := Go.Ground.phase }, { on := 1, ground := Go.Ground.phase }, { on := 2, ground := Go.Ground.phase }, { on := 3, ground := Go.Ground.phase }, { on := 4, ground := Go.Ground.phase }, { on := 5, ground := Go.Ground.phase }, { on := 6, ground := Go.Ground.phase }, { on := 7, ground := Go.Ground.phase }, { on := 8, ground := (Go.Ground.textOnly Go.Departure.lateStores) }]) (gd := none) (t := 40) (x := (Go.Operand.tmp 26)) (y := (Go.Operand.tmp 23)) (v := .pointer (some ⟨g5, 0, none⟩)) HS 2 rfl (1) [.pointer (some ⟨g5, 0, none⟩)] (by kernel_rfl) (by kernel_rfl) (by kernel_rfl) (by kernel_rfl) (one_ (by kernel_rfl)) (Nat.le_of_ble_eq_true rfl)
  replace HK := HK.trans hk_ (fun _ h_ => .inl (blk_own h_))
  refine t_s (n := 0) 11 rfl (by kernel_rfl) (by kernel_rfl) hrun_ HK ?_
  clear hk_ hrun_
  replace HS : St W M W11 [blk g5 [.slice (some ⟨a6, 0, none⟩) ws8.length c7, .int .i64 n] 62, row (some ⟨a6, 0, none⟩) ws8.length c7 (ci .u64 ws8) 63 1, blk g [.pointer (some ⟨q, 0, none⟩), .pointer (some ⟨g5, 0, none⟩), .int .i64 n] 53, blk g1 [.pointer (some ⟨g, 0, none⟩)] 24, blk q [.slice A L.length c] 74, row A L.length c (ci .i32 L) 21 1] := H_
  clear H_
  refine t_done (by kernel_rfl) ?_
  clear HV HK
  refine x_then ?_
  refine wp_seq ?_
  refine wp_seq ?_
  refine wp_region_lit ?_
  refine ql (.pointer (some ⟨g, 0, none⟩)) (by kernel_rfl) (R_load (p := ⟨g1, 0, none⟩) (by kernel_rfl) (by kernel_rfl) (by kernel_rfl) (HS.cell (i := 3) (j := 0) rfl rfl)) ?_
  refine ql (.pointer (some ⟨g, 0, none⟩)) (by kernel_rfl) (by kernel_rfl) ?_
  refine ql (.pointer (some ⟨g, 0, none⟩)) (by kernel_rfl) (by kernel_rfl) ?_
  refine ql (.pointer (some ⟨q, 0, none⟩)) (by kernel_rfl) (R_load (p := ⟨g, 0, none⟩) (by kernel_rfl) (by kernel_rfl) (by kernel_rfl) (HS.cell (i := 2) (j := 0) rfl rfl)) ?_
  refine qc (f := 43) (args := #[.pointer (some ⟨q, 0, none⟩)]) (by kernel_rfl) (R_call #[.pointer (some ⟨q, 0, none⟩)] Tryd.func43 (by kernel_rfl) (by kernel_rfl) (by kernel_rfl)) ?_
  refine (sall q _).mono ?_
  rintro e W13 ⟨b12, rfl, H_⟩
  refine ⟨_, rfl, ?_⟩
  replace HS : St W M W13 [blk b12 [.pointer (some ⟨q, 0, none⟩)] 50, blk g5 [.slice (some ⟨a6, 0, none⟩) ws8.length c7, .int .i64 n] 62, row (some ⟨a6, 0, none⟩) ws8.length c7 (ci .u64 ws8) 63 1, blk g [.pointer (some ⟨q, 0, none⟩), .pointer (some ⟨g5, 0, none⟩), .int .i64 n] 53, blk g1 [.pointer (some ⟨g, 0, none⟩)] 24, blk q [.slice A L.length c] 74, row A L.length c (ci .i32 L) 21 1] := HS.join (F := []) (G := [blk b12 [.pointer (some ⟨q, 0, none⟩)] 50]) H_
  clear H_
  refine wpList_nil ?_
  refine x_then ?_
  refine wp_block ?_
  replace HS : St W M W13 [blk g5 [.slice (some ⟨a6, 0, none⟩) ws8.length c7, .int .i64 n] 62, row (some ⟨a6, 0, none⟩) ws8.length c7 (ci .u64 ws8) 63 1, blk b12 [.pointer (some ⟨q, 0, none⟩)] 50, blk g [.pointer (some ⟨q, 0, none⟩), .pointer (some ⟨g5, 0, none⟩), .int .i64 n] 53, blk g1 [.pointer (some ⟨g, 0, none⟩)] 24, blk q [.slice A L.length c] 74, row A L.length c (ci .i32 L) 21 1] := HS.perm (perm_ [1, 2, 0, 3, 4, 5, 6] (by kernel_rfl) rfl)
  have HDT : SpT b12 q c A L _ := ⟨HS.cell (i := 2) (j := 0) rfl rfl, HS.cell (i := 5) (j := 0) rfl rfl, Rd.row HS (i := 6) rfl⟩
  have HSb := HS
  refine rangeF (gf := 53) (lb := #[.pointer (some ⟨b12, 0, none⟩)]) (m := 0) (by kernel_rfl) (enters_of Tryd.func53 (by kernel_rfl) rfl) (sall_stops b12 q c A L _ HDT.hb HDT.h0 HDT.hr hs (by omega) 0) (fun h_ k_ => fun x_ => k_ (h_ x_)) (fun X l_ o_ o2_ _ h1_ h2_ _ => fun x_ => x_.put h1_ h2_)
    (fun pre w' => ∃ (ws_ : List Int), (Rep ws_ n (adds n [] pre)) ∧ St W M w' [blk g5 [.slice (some ⟨a6, 0, none⟩) ws_.length c7, .int .i64 n] 62, row (some ⟨a6, 0, none⟩) ws_.length c7 (ci .u64 ws_) 63 1, blk b12 [.pointer (some ⟨q, 0, none⟩)] 50, blk g [.pointer (some ⟨q, 0, none⟩), .pointer (some ⟨g5, 0, none⟩), .int .i64 n] 53, blk g1 [.pointer (some ⟨g, 0, none⟩)] 24, blk q [.slice A L.length c] 74, row A L.length c (ci .i32 L) 21 1])
    (fun c pre w' => False)
    (fun s_ A_ B_ r_ h_ hg_ hr_ => by obtain ⟨ws_, hR, HS⟩ := h_; exact ⟨ws_, hR, HS.grown (cel_cons blk_cel (cel_cons row_cel (cel_cons blk_cel (cel_cons blk_cel (cel_cons blk_cel (cel_cons blk_cel (cel_cons row_cel cel_nil))))))) HSb.le hg_ hr_⟩)
    (fun _ _ _ _ _ h_ _ _ => h_)
    (by exact ⟨ws8, hR9, HS⟩)
    (fun x => [.pointer (some ⟨g, 0, none⟩), .pointer (some ⟨g1, 0, none⟩), .int .i64 x, .pointer (some ⟨g, 0, none⟩), .pointer (some ⟨g, 0, none⟩), .pointer (some ⟨g, 1, none⟩), .pointer none, .bool false, .bool false, .pointer (some ⟨g, 0, none⟩), .pointer (some ⟨g, 0, none⟩), .pointer (some ⟨g, 0, none⟩), .pointer (some ⟨q, 0, none⟩), .int .i64 (L.length : Int), .bool false, .bool false, .tuple #[.pointer (some ⟨g5, 0, none⟩), .int .i64 0], .pointer (some ⟨g, 0, none⟩), .pointer (some ⟨g, 0, none⟩), .pointer (some ⟨g, 0, none⟩), .pointer (some ⟨g, 2, none⟩), .int .i64 n, .tuple #[.pointer (some ⟨g5, 0, none⟩), .int .i64 0], .pointer (some ⟨g5, 0, none⟩), .int .i64 0, .pointer (some ⟨g, 0, none⟩), .pointer (some ⟨g, 1, none⟩), .pointer (some ⟨g, 0, none⟩), .pointer (some ⟨g, 0, none⟩), .pointer (some ⟨g, 0, none⟩), .pointer (some ⟨q, 0, none⟩), .func (.func 53) #[] #[.pointer (some ⟨b12, 0, none⟩)], .int .i64 x, undef, undef, undef, undef, undef, undef, undef, undef, undef]) ?_ ?_ ?_ ?_
  · intro l x W14 K_ hK_
    refine wp_region_litR (by kernel_rfl) (fun ⟨_, _, h_⟩ => (h_ : False)) ?_
    refine ql (.int .i64 x) (by kernel_rfl) (by kernel_rfl) ?_
    refine wpList_nil ?_
    refine x_then ?_
    exact kk_ (congrArg Fr (by kernel_rfl)) hK_
  · intro l pre x W14 hI_ hlt
    obtain ⟨ws_, hR, HS⟩ := hI_
    have HO := HS
    replace HS := HO.root
    refine wpIn_block ?_
    refine wp_region_litR (by kernel_rfl) (fun ⟨_, _, h_⟩ => (h_ : False)) ?_
    refine ql (.pointer (some ⟨g, 0, none⟩)) (by kernel_rfl) (R_load (p := ⟨g1, 0, none⟩) (by kernel_rfl) (by kernel_rfl) (by kernel_rfl) (HS.cell (i := 4) (j := 0) rfl rfl)) ?_
    refine ql (.pointer (some ⟨g, 0, none⟩)) (by kernel_rfl) (by kernel_rfl) ?_
    refine ql (.pointer (some ⟨g, 1, none⟩)) (by kernel_rfl) (by kernel_rfl) ?_
    refine ql (.pointer (some ⟨g5, 0, none⟩)) (by kernel_rfl) (R_load (p := ⟨g, 1, none⟩) (by kernel_rfl) (by kernel_rfl) (by kernel_rfl) (HS.cell (i := 3) (j := 1) rfl rfl)) ?_
    refine ql (.int .i64 x) (by kernel_rfl) (by kernel_rfl) ?_
    refine qc (f := 12) (args := #[.pointer (some ⟨g5, 0, none⟩), .int .i64 x]) (by kernel_rfl) (R_call #[.pointer (some ⟨g5, 0, none⟩), .int .i64 x] Tryd.func12 (by kernel_rfl) (by kernel_rfl) (by kernel_rfl)) ?_
    refine (dadd g5 c7 (some ⟨a6, 0, none⟩) ws_ n (adds n [] pre) x _ _ (St.focus (F := [blk g5 [.slice (some ⟨a6, 0, none⟩) ws_.length c7, .int .i64 n] 62, row (some ⟨a6, 0, none⟩) ws_.length c7 (ci .u64 ws_) 63 1]) HS) hR (by omega)).mono ?_
    rintro e W17 ⟨ws15, rfl, H_, hR16⟩
    refine ⟨_, rfl, ?_⟩
    replace HS : St W14 (owns [blk g5 [.slice (some ⟨a6, 0, none⟩) ws_.length c7, .int .i64 n] 62, row (some ⟨a6, 0, none⟩) ws_.length c7 (ci .u64 ws_) 63 1, blk b12 [.pointer (some ⟨q, 0, none⟩)] 50, blk g [.pointer (some ⟨q, 0, none⟩), .pointer (some ⟨g5, 0, none⟩), .int .i64 n] 53, blk g1 [.pointer (some ⟨g, 0, none⟩)] 24, blk q [.slice A L.length c] 74, row A L.length c (ci .i32 L) 21 1]) W17 [blk g5 [.slice (some ⟨a6, 0, none⟩) ws15.length c7, .int .i64 n] 62, row (some ⟨a6, 0, none⟩) ws15.length c7 (ci .u64 ws15) 63 1, blk b12 [.pointer (some ⟨q, 0, none⟩)] 50, blk g [.pointer (some ⟨q, 0, none⟩), .pointer (some ⟨g5, 0, none⟩), .int .i64 n] 53, blk g1 [.pointer (some ⟨g, 0, none⟩)] 24, blk q [.slice A L.length c] 74, row A L.length c (ci .i32 L) 21 1] := HS.join (F := [blk g5 [.slice (some ⟨a6, 0, none⟩) ws_.length c7, .int .i64 n] 62, row (some ⟨a6, 0, none⟩) ws_.length c7 (ci .u64 ws_) 63 1]) (G := [blk g5 [.slice (some ⟨a6, 0, none⟩) ws15.length c7, .int .i64 n] 62, row (some ⟨a6, 0, none⟩) ws15.length c7 (ci .u64 ws15) 63 1]) H_
    clear H_
    refine wpList_nil ?_
    refine x_inb ?_
    have HF := HO.unroot HS
    exact og_n (HS.keepsFrom HO (cel_cons blk_cel (cel_cons row_cel (cel_cons blk_cel (cel_cons blk_cel (cel_cons blk_cel (cel_cons blk_cel (cel_cons row_cel cel_nil))))))) _) (fun _ => ⟨HF.cell (i := 2) (j := 0) rfl rfl, HF.cell (i := 5) (j := 0) rfl rfl, Rd.row HF (i := 6) rfl⟩) ⟨ws15, (by rw [adds_snoc]; exact hR16), HF⟩
  · intro D xs W14 hD hS hI_ hdf
    have hS : L = xs := hS.symm
    subst hS
    obtain ⟨ws_, hR, HS⟩ := hI_
    replace HS := HS.addD (cel_cons blk_cel (cel_cons row_cel (cel_cons blk_cel (cel_cons blk_cel (cel_cons blk_cel (cel_cons blk_cel (cel_cons row_cel cel_nil))))))) (Nat.le_trans HSb.le hD) hdf
    refine x_inb ?_
    refine x_then ?_
    refine wp_region_lit ?_
    refine ql (.pointer (some ⟨g, 0, none⟩)) (by kernel_rfl) (R_load (p := ⟨g1, 0, none⟩) (by kernel_rfl) (by kernel_rfl) (by kernel_rfl) (HS.cell (i := 5) (j := 0) rfl rfl)) ?_
    refine ql (.pointer (some ⟨g, 0, none⟩)) (by kernel_rfl) (by kernel_rfl) ?_
    refine ql (.pointer (some ⟨g, 0, none⟩)) (by kernel_rfl) (by kernel_rfl) ?_
    refine ks (v := .pointer none) HS 4 rfl (0) [.pointer none] (by kernel_rfl) (by kernel_rfl) (by kernel_rfl) (by kernel_rfl) (by kernel_rfl) (one_ (by kernel_rfl)) (Nat.le_of_ble_eq_true rfl) rfl ?_
    intro W18 H_
    replace HS : St W M W18 [dfr D, blk g5 [.slice (some ⟨a6, 0, none⟩) ws_.length c7, .int .i64 n] 62, row (some ⟨a6, 0, none⟩) ws_.length c7 (ci .u64 ws_) 63 1, blk b12 [.pointer (some ⟨q, 0, none⟩)] 50, blk g [.pointer none, .pointer (some ⟨g5, 0, none⟩), .int .i64 n] 53, blk g1 [.pointer (some ⟨g, 0, none⟩)] 24, blk q [.slice A L.length c] 74, row A L.length c (ci .i32 L) 21 1] := H_
    clear H_
    refine wpList_nil ?_
    refine endD_ HS ?_
    clear HS
    intro W19 HS
    refine ⟨.tuple #[], by kernel_rfl, ?_⟩
    replace HS : St W M W19 [blk g [.pointer none, .pointer (some ⟨g5, 0, none⟩), .int .i64 n] 53, blk g5 [.slice (some ⟨a6, 0, none⟩) ws_.length c7, .int .i64 n] 62, row (some ⟨a6, 0, none⟩) ws_.length c7 (ci .u64 ws_) 63 1] := St.tail (F := [blk b12 [.pointer (some ⟨q, 0, none⟩)] 50, blk g1 [.pointer (some ⟨g, 0, none⟩)] 24, blk q [.slice A L.length c] 74, row A L.length c (ci .i32 L) 21 1]) (HS.perm (perm_ [2, 4, 5, 6, 3, 0, 1] (by kernel_rfl) rfl))
    have hR2 : Rep ws_ n L := by rw [adds_all hs.1 (fun x hx => ⟨(hs.2 x hx).1, hlim x hx⟩)] at hR; exact hR
    have hn9 := inr_len hs.1 (fun x hx => ⟨(hs.2 x hx).1, hlim x hx⟩) h0
    exact ⟨.mny g5 c7 (some ⟨a6, 0, none⟩) ws_, rfl, St.close1 HS, ⟨hR2, by omega⟩, by rw [decide_eq_true hl]; rfl⟩
  · intro D c pre W14 hD hSp hIx_ hdf
    exact hIx_.elim

theorem mwid_few (g q c : Nat) (A : Option Addr) (n : Int) (L : List Int) (W : World) (M : Nat → Prop) (HS : St W M W [blk g [.pointer (some ⟨q, 0, none⟩), .pointer none, .int .i64 n] 53, blk q [.slice A L.length c] 74, row A L.length c (ci .i32 L) 21 1]) (hs : S31 L) (hlim : ∀ x ∈ L, x < n) (h0 : 0 ≤ n) (hn : n ≤ 1048576) (hl2 : L.length ≤ 100000) : Calls Tryd.prog 32 #[.pointer (some ⟨g, 0, none⟩)] W fun e W' => ∃ x', e = .returned (.tuple #[]) ∧ St W M W' [many (mxE 53 74 21 62 63 g n L x')] ∧ x'.ok n L ∧ x'.b = decide (8 < L.length) := by
  by_cases hl : L.length ≤ 8
  · exact mwid_s g q c A n L W M HS hs hlim h0 hn hl
  · exact mwid_b g q c A n L W M HS hs hlim h0 hn (by omega) hl2

set_option maxRecDepth 100000 in
set_option maxHeartbeats 1000000 in
theorem madd_few (g q c : Nat) (A : Option Addr) (n : Int) (L : List Int) (i : Int) (W : World) (M : Nat → Prop) (HS : St W M W [blk g [.pointer (some ⟨q, 0, none⟩), .pointer none, .int .i64 n] 53, blk q [.slice A L.length c] 74, row A L.length c (ci .i32 L) 21 1]) (hs : S31 L) (hlim : ∀ x ∈ L, x < n) (hl : L.length ≤ 8) (h0 : 0 ≤ n) (hn : n ≤ 1048576) : Calls Tryd.prog 11 #[.pointer (some ⟨g, 0, none⟩), .int .i64 i] W fun e W' => ∃ x', e = .returned (.bool (addB n L i)) ∧ St W M W' [many (mxE 53 74 21 62 63 g n (addL n L i) x')] ∧ x'.ok n (addL n L i) ∧ x'.b = (false || decide (8 < (addL n L i).length)) := by
  refine calls_enter [.pointer (some ⟨g, 0, none⟩), .int .i64 i, undef, undef, undef, undef, undef, undef, undef, undef, undef, undef, undef, undef, undef, undef, undef, undef, undef, undef, undef, undef, undef, undef, undef, undef, undef, undef, undef, undef, undef, undef, undef, undef, undef, undef, undef, undef, undef, undef, undef, undef] Tryd.func11 rfl (by kernel_rfl) ?_
  refine wp_seq ?_
  refine wp_region_lit ?_
  refine ql (.bool false) (by kernel_rfl) (by kernel_rfl) ?_
  refine wpList_nil ?_
  refine x_then ?_
  refine wp_seq ?_
  refine wp_block ?_
  refine wp_seq ?_
  refine wp_region_lit ?_
  refine ql (.pointer (some ⟨g, 0, none⟩)) (by kernel_rfl) (by kernel_rfl) ?_
  refine ql (.bool false) (by kernel_rfl) (by kernel_rfl) ?_
  refine ql (.bool false) (by kernel_rfl) (by kernel_rfl) ?_
  refine ql (.int .i64 i) (by kernel_rfl) (by kernel_rfl) ?_
  by_cases hc1 : i < (0 : Int)
  · skip
    refine ql (.bool true) (by kernel_rfl) (R_bool (p := i < (0 : Int)) (by kernel_rfl) (hc1)) ?_
    refine ql (.bool true) (by kernel_rfl) (by kernel_rfl) ?_
    refine ql (.bool true) (by kernel_rfl) (by kernel_rfl) ?_
    refine qln (by kernel_rfl) ?_
    refine qln (by kernel_rfl) ?_
    refine qln (by kernel_rfl) ?_
    refine qln (by kernel_rfl) ?_
    refine qln (by kernel_rfl) ?_
    refine qln (by kernel_rfl) ?_
    refine ql (.bool true) (by kernel_rfl) (by kernel_rfl) ?_
    refine ql (.bool true) (by kernel_rfl) (by kernel_rfl) ?_
    refine wpList_nil ?_
    refine x_then ?_
    refine wp_cond_true (by kernel_rfl) ?_
    refine wp_seq ?_
    refine wp_region_lit ?_
    refine ql (.bool false) (by kernel_rfl) (by kernel_rfl) ?_
    refine wpList_nil ?_
    refine x_then ?_
    refine wp_ret ?_
    refine x_inbR ?_
    refine x_thenR ?_
    refine ret_ (.bool false) (by kernel_rfl) ?_
    have ha := addL_out (n := n) (i := i) (L := L) (by omega)
    exact ⟨.few q c A, by rw [ha.2], by rw [ha.1]; exact St.close1 HS, by rw [ha.1]; exact ⟨hs, hlim, hl⟩, by rw [ha.1, decide_eq_false (by omega)]; rfl⟩
  · skip
    refine ql (.bool false) (by kernel_rfl) (R_nbool (p := i < (0 : Int)) (by kernel_rfl) (hc1)) ?_
    refine ql (.bool false) (by kernel_rfl) (by kernel_rfl) ?_
    refine ql (.bool false) (by kernel_rfl) (by kernel_rfl) ?_
    refine ql (.int .i64 i) (by kernel_rfl) (by kernel_rfl) ?_
    refine ql (.pointer (some ⟨g, 0, none⟩)) (by kernel_rfl) (by kernel_rfl) ?_
    refine ql (.pointer (some ⟨g, 0, none⟩)) (by kernel_rfl) (by kernel_rfl) ?_
    refine ql (.pointer (some ⟨g, 2, none⟩)) (by kernel_rfl) (by kernel_rfl) ?_
    refine ql (.int .i64 n) (by kernel_rfl) (R_load (p := ⟨g, 2, none⟩) (by kernel_rfl) (by kernel_rfl) (by kernel_rfl) (HS.cell (i := 0) (j := 2) rfl rfl)) ?_
    by_cases hc2 : i ≥ n
    · skip
      refine ql (.bool true) (by kernel_rfl) (R_bool (p := i ≥ n) (by kernel_rfl) (hc2)) ?_
      refine ql (.bool true) (by kernel_rfl) (by kernel_rfl) ?_
      refine ql (.bool true) (by kernel_rfl) (by kernel_rfl) ?_
      refine wpList_nil ?_
      refine x_then ?_
      refine wp_cond_true (by kernel_rfl) ?_
      refine wp_seq ?_
      refine wp_region_lit ?_
      refine ql (.bool false) (by kernel_rfl) (by kernel_rfl) ?_
      refine wpList_nil ?_
      refine x_then ?_
      refine wp_ret ?_
      refine x_inbR ?_
      refine x_thenR ?_
      refine ret_ (.bool false) (by kernel_rfl) ?_
      have ha := addL_out (n := n) (i := i) (L := L) (by omega)
      exact ⟨.few q c A, by rw [ha.2], by rw [ha.1]; exact St.close1 HS, by rw [ha.1]; exact ⟨hs, hlim, hl⟩, by rw [ha.1, decide_eq_false (by omega)]; rfl⟩
    · skip
      refine ql (.bool false) (by kernel_rfl) (R_nbool (p := i ≥ n) (by kernel_rfl) (hc2)) ?_
      refine ql (.bool false) (by kernel_rfl) (by kernel_rfl) ?_
      refine ql (.bool false) (by kernel_rfl) (by kernel_rfl) ?_
      refine wpList_nil ?_
      refine x_then ?_
      refine wp_cond_false (by kernel_rfl) ?_
      refine wp_seq ?_
      refine wp_region_lit ?_
      refine ql (.pointer (some ⟨g, 0, none⟩)) (by kernel_rfl) (by kernel_rfl) ?_
      refine ql (.pointer (some ⟨g, 0, none⟩)) (by kernel_rfl) (by kernel_rfl) ?_
      refine ql (.pointer (some ⟨g, 1, none⟩)) (by kernel_rfl) (by kernel_rfl) ?_
      refine ql (.pointer none) (by kernel_rfl) (R_load (p := ⟨g, 1, none⟩) (by kernel_rfl) (by kernel_rfl) (by kernel_rfl) (HS.cell (i := 0) (j := 1) rfl rfl)) ?_
      refine ql (.bool false) (by kernel_rfl) (by kernel_rfl) ?_
      refine ql (.bool false) (by kernel_rfl) (by kernel_rfl) ?_
      refine wpList_nil ?_
      refine x_then ?_
      refine wp_cond_false (by kernel_rfl) ?_
      refine wp_skip ?_
      refine x_inb ?_
      refine x_then ?_
      refine wp_seq ?_
      refine wp_region_lit ?_
      refine ql (.pointer (some ⟨g, 0, none⟩)) (by kernel_rfl) (by kernel_rfl) ?_
      refine ql (.pointer (some ⟨g, 0, none⟩)) (by kernel_rfl) (by kernel_rfl) ?_
      refine ql (.pointer (some ⟨g, 0, none⟩)) (by kernel_rfl) (by kernel_rfl) ?_
      refine ql (.pointer (some ⟨q, 0, none⟩)) (by kernel_rfl) (R_load (p := ⟨g, 0, none⟩) (by kernel_rfl) (by kernel_rfl) (by kernel_rfl) (HS.cell (i := 0) (j := 0) rfl rfl)) ?_
      refine ql (.int .i64 i) (by kernel_rfl) (by kernel_rfl) ?_
      refine qc (f := 31) (args := #[.pointer (some ⟨q, 0, none⟩), .int .i64 i]) (by kernel_rfl) (R_call #[.pointer (some ⟨q, 0, none⟩), .int .i64 i] Tryd.func31 (by kernel_rfl) (by kernel_rfl) (by kernel_rfl)) ?_
      have hae := addL_31 (L := L) (by omega : 0 ≤ i) (by omega : i < n) (by omega)
      have hal := addL_len 2147483648 i L
      replace HS : St W M W [blk q [.slice A L.length c] 74, row A L.length c (ci .i32 L) 21 1, blk g [.pointer (some ⟨q, 0, none⟩), .pointer none, .int .i64 n] 53] := HS.perm (perm_ [1, 2, 0] (by kernel_rfl) rfl)
      refine (sadd q c A L i _ _ (St.focus (F := [blk q [.slice A L.length c] 74, row A L.length c (ci .i32 L) 21 1]) HS) hs (by omega)).mono ?_
      rintro e W6 ⟨A3, c4, rfl, H_⟩
      refine ⟨_, rfl, ?_⟩
      replace HS : St W M W6 [blk q [.slice A3 ((addL 2147483648 L i).length) c4] 74, row A3 ((addL 2147483648 L i).length) c4 (ci .i32 (addL 2147483648 L i)) 21 1, blk g [.pointer (some ⟨q, 0, none⟩), .pointer none, .int .i64 n] 53] := HS.join (F := [blk q [.slice A L.length c] 74, row A L.length c (ci .i32 L) 21 1]) (G := [blk q [.slice A3 ((addL 2147483648 L i).length) c4] 74, row A3 ((addL 2147483648 L i).length) c4 (ci .i32 (addL 2147483648 L i)) 21 1]) H_
      clear H_
      refine ql (.bool (addB 2147483648 L i)) (by kernel_rfl) (by kernel_rfl) ?_
      refine wpList_nil ?_
      refine x_then ?_
      refine wp_seq ?_
      refine wp_region_lit ?_
      refine ql (.pointer (some ⟨g, 0, none⟩)) (by kernel_rfl) (by kernel_rfl) ?_
      refine qc (f := 32) (args := #[.pointer (some ⟨g, 0, none⟩)]) (by kernel_rfl) (R_call #[.pointer (some ⟨g, 0, none⟩)] Tryd.func32 (by kernel_rfl) (by kernel_rfl) (by kernel_rfl)) ?_
      replace HS : St W M W6 [blk g [.pointer (some ⟨q, 0, none⟩), .pointer none, .int .i64 n] 53, blk q [.slice A3 ((addL 2147483648 L i).length) c4] 74, row A3 ((addL 2147483648 L i).length) c4 (ci .i32 (addL 2147483648 L i)) 21 1] := HS.perm (perm_ [2, 0, 1] (by kernel_rfl) rfl)
      refine (mwid_few g q c4 A3 n (addL 2147483648 L i) _ _ (St.focus (F := [blk g [.pointer (some ⟨q, 0, none⟩), .pointer none, .int .i64 n] 53, blk q [.slice A3 ((addL 2147483648 L i).length) c4] 74, row A3 ((addL 2147483648 L i).length) c4 (ci .i32 (addL 2147483648 L i)) 21 1]) HS) (hs.add) (by rw [hae.1]; exact lim_add hlim) h0 hn (by omega)).mono ?_
      rintro e W10 ⟨x7, rfl, H_, hok8, hb9⟩
      refine ⟨_, rfl, ?_⟩
      replace HS : St W M W10 [many (mxE 53 74 21 62 63 g n (addL 2147483648 L i) x7)] := HS.join (F := [blk g [.pointer (some ⟨q, 0, none⟩), .pointer none, .int .i64 n] 53, blk q [.slice A3 ((addL 2147483648 L i).length) c4] 74, row A3 ((addL 2147483648 L i).length) c4 (ci .i32 (addL 2147483648 L i)) 21 1]) (G := [many (mxE 53 74 21 62 63 g n (addL 2147483648 L i) x7)]) H_
      clear H_
      refine wpList_nil ?_
      refine x_then ?_
      refine wp_seq ?_
      refine wp_region_lit ?_
      refine ql (.bool (addB 2147483648 L i)) (by kernel_rfl) (by kernel_rfl) ?_
      refine ql (.bool (addB 2147483648 L i)) (by kernel_rfl) (by kernel_rfl) ?_
      refine wpList_nil ?_
      refine x_then ?_
      refine wp_ret ?_
      refine ret_ (.bool (addB 2147483648 L i)) (by kernel_rfl) ?_
      exact ⟨x7, by rw [← hae.2], by rw [← hae.1]; exact HS, by rw [← hae.1]; exact hok8, by rw [← hae.1]; exact hb9⟩

set_option maxRecDepth 100000 in
set_option maxHeartbeats 1000000 in
theorem madd_mny (g d c : Nat) (A : Option Addr) (ws : List Int) (n : Int) (L : List Int) (i : Int) (W : World) (M : Nat → Prop) (HS : St W M W [blk g [.pointer none, .pointer (some ⟨d, 0, none⟩), .int .i64 n] 53, blk d [.slice A ws.length c, .int .i64 n] 62, row A ws.length c (ci .u64 ws) 63 1]) (hR : Rep ws n L) (hnp : 0 < n) (hn : n ≤ 1048576) : Calls Tryd.prog 11 #[.pointer (some ⟨g, 0, none⟩), .int .i64 i] W fun e W' => ∃ x', e = .returned (.bool (addB n L i)) ∧ St W M W' [many (mxE 53 74 21 62 63 g n (addL n L i) x')] ∧ x'.ok n (addL n L i) ∧ x'.b = (true || decide (8 < (addL n L i).length)) := by
  refine calls_enter [.pointer (some ⟨g, 0, none⟩), .int .i64 i, undef, undef, undef, undef, undef, undef, undef, undef, undef, undef, undef, undef, undef, undef, undef, undef, undef, undef, undef, undef, undef, undef, undef, undef, undef, undef, undef, undef, undef, undef, undef, undef, undef, undef, undef, undef, undef, undef, undef, undef] Tryd.func11 rfl (by kernel_rfl) ?_
  refine wp_seq ?_
  refine wp_region_lit ?_
  refine ql (.bool false) (by kernel_rfl) (by kernel_rfl) ?_
  refine wpList_nil ?_
  refine x_then ?_
  refine wp_seq ?_
  refine wp_block ?_
  refine wp_seq ?_
  refine wp_region_lit ?_
  refine ql (.pointer (some ⟨g, 0, none⟩)) (by kernel_rfl) (by kernel_rfl) ?_
  refine ql (.bool false) (by kernel_rfl) (by kernel_rfl) ?_
  refine ql (.bool false) (by kernel_rfl) (by kernel_rfl) ?_
  refine ql (.int .i64 i) (by kernel_rfl) (by kernel_rfl) ?_
  by_cases hc1 : i < (0 : Int)
  · skip
    refine ql (.bool true) (by kernel_rfl) (R_bool (p := i < (0 : Int)) (by kernel_rfl) (hc1)) ?_
    refine ql (.bool true) (by kernel_rfl) (by kernel_rfl) ?_
    refine ql (.bool true) (by kernel_rfl) (by kernel_rfl) ?_
    refine qln (by kernel_rfl) ?_
    refine qln (by kernel_rfl) ?_
    refine qln (by kernel_rfl) ?_
    refine qln (by kernel_rfl) ?_
    refine qln (by kernel_rfl) ?_
    refine qln (by kernel_rfl) ?_
    refine ql (.bool true) (by kernel_rfl) (by kernel_rfl) ?_
    refine ql (.bool true) (by kernel_rfl) (by kernel_rfl) ?_
    refine wpList_nil ?_
    refine x_then ?_
    refine wp_cond_true (by kernel_rfl) ?_
    refine wp_seq ?_
    refine wp_region_lit ?_
    refine ql (.bool false) (by kernel_rfl) (by kernel_rfl) ?_
    refine wpList_nil ?_
    refine x_then ?_
    refine wp_ret ?_
    refine x_inbR ?_
    refine x_thenR ?_
    refine ret_ (.bool false) (by kernel_rfl) ?_
    have ha := addL_out (n := n) (i := i) (L := L) (by omega)
    exact ⟨.mny d c A ws, by rw [ha.2], by rw [ha.1]; exact St.close1 HS, by rw [ha.1]; exact ⟨hR, hnp⟩, rfl⟩
  · skip
    refine ql (.bool false) (by kernel_rfl) (R_nbool (p := i < (0 : Int)) (by kernel_rfl) (hc1)) ?_
    refine ql (.bool false) (by kernel_rfl) (by kernel_rfl) ?_
    refine ql (.bool false) (by kernel_rfl) (by kernel_rfl) ?_
    refine ql (.int .i64 i) (by kernel_rfl) (by kernel_rfl) ?_
    refine ql (.pointer (some ⟨g, 0, none⟩)) (by kernel_rfl) (by kernel_rfl) ?_
    refine ql (.pointer (some ⟨g, 0, none⟩)) (by kernel_rfl) (by kernel_rfl) ?_
    refine ql (.pointer (some ⟨g, 2, none⟩)) (by kernel_rfl) (by kernel_rfl) ?_
    refine ql (.int .i64 n) (by kernel_rfl) (R_load (p := ⟨g, 2, none⟩) (by kernel_rfl) (by kernel_rfl) (by kernel_rfl) (HS.cell (i := 0) (j := 2) rfl rfl)) ?_
    by_cases hc2 : i ≥ n
    · skip
      refine ql (.bool true) (by kernel_rfl) (R_bool (p := i ≥ n) (by kernel_rfl) (hc2)) ?_
      refine ql (.bool true) (by kernel_rfl) (by kernel_rfl) ?_
      refine ql (.bool true) (by kernel_rfl) (by kernel_rfl) ?_
      refine wpList_nil ?_
      refine x_then ?_
      refine wp_cond_true (by kernel_rfl) ?_
      refine wp_seq ?_
      refine wp_region_lit ?_
      refine ql (.bool false) (by kernel_rfl) (by kernel_rfl) ?_
      refine wpList_nil ?_
      refine x_then ?_
      refine wp_ret ?_
      refine x_inbR ?_
      refine x_thenR ?_
      refine ret_ (.bool false) (by kernel_rfl) ?_
      have ha := addL_out (n := n) (i := i) (L := L) (by omega)
      exact ⟨.mny d c A ws, by rw [ha.2], by rw [ha.1]; exact St.close1 HS, by rw [ha.1]; exact ⟨hR, hnp⟩, rfl⟩
    · skip
      refine ql (.bool false) (by kernel_rfl) (R_nbool (p := i ≥ n) (by kernel_rfl) (hc2)) ?_
      refine ql (.bool false) (by kernel_rfl) (by kernel_rfl) ?_
      refine ql (.bool false) (by kernel_rfl) (by kernel_rfl) ?_
      refine wpList_nil ?_
      refine x_then ?_
      refine wp_cond_false (by kernel_rfl) ?_
      refine wp_seq ?_
      refine wp_region_lit ?_
      refine ql (.pointer (some ⟨g, 0, none⟩)) (by kernel_rfl) (by kernel_rfl) ?_
      refine ql (.pointer (some ⟨g, 0, none⟩)) (by kernel_rfl) (by kernel_rfl) ?_
      refine ql (.pointer (some ⟨g, 1, none⟩)) (by kernel_rfl) (by kernel_rfl) ?_
      refine ql (.pointer (some ⟨d, 0, none⟩)) (by kernel_rfl) (R_load (p := ⟨g, 1, none⟩) (by kernel_rfl) (by kernel_rfl) (by kernel_rfl) (HS.cell (i := 0) (j := 1) rfl rfl)) ?_
      refine ql (.bool true) (by kernel_rfl) (by kernel_rfl) ?_
      refine ql (.bool true) (by kernel_rfl) (by kernel_rfl) ?_
      refine wpList_nil ?_
      refine x_then ?_
      refine wp_cond_true (by kernel_rfl) ?_
      refine wp_seq ?_
      refine wp_region_lit ?_
      refine ql (.pointer (some ⟨g, 0, none⟩)) (by kernel_rfl) (by kernel_rfl) ?_
      refine ql (.pointer (some ⟨g, 0, none⟩)) (by kernel_rfl) (by kernel_rfl) ?_
      refine ql (.pointer (some ⟨g, 1, none⟩)) (by kernel_rfl) (by kernel_rfl) ?_
      refine ql (.pointer (some ⟨d, 0, none⟩)) (by kernel_rfl) (R_load (p := ⟨g, 1, none⟩) (by kernel_rfl) (by kernel_rfl) (by kernel_rfl) (HS.cell (i := 0) (j := 1) rfl rfl)) ?_
      refine ql (.int .i64 i) (by kernel_rfl) (by kernel_rfl) ?_
      refine qc (f := 12) (args := #[.pointer (some ⟨d, 0, none⟩), .int .i64 i]) (by kernel_rfl) (R_call #[.pointer (some ⟨d, 0, none⟩), .int .i64 i] Tryd.func12 (by kernel_rfl) (by kernel_rfl) (by kernel_rfl)) ?_
      replace HS : St W M W [blk d [.slice A ws.length c, .int .i64 n] 62, row A ws.length c (ci .u64 ws) 63 1, blk g [.pointer none, .pointer (some ⟨d, 0, none⟩), .int .i64 n] 53] := HS.perm (perm_ [1, 2, 0] (by kernel_rfl) rfl)
      refine (dadd d c A ws n L i _ _ (St.focus (F := [blk d [.slice A ws.length c, .int .i64 n] 62, row A ws.length c (ci .u64 ws) 63 1]) HS) hR hn).mono ?_
      rintro e W5 ⟨ws3, rfl, H_, hR4⟩
      refine ⟨_, rfl, ?_⟩
      replace HS : St W M W5 [blk d [.slice A ws3.length c, .int .i64 n] 62, row A ws3.length c (ci .u64 ws3) 63 1, blk g [.pointer none, .pointer (some ⟨d, 0, none⟩), .int .i64 n] 53] := HS.join (F := [blk d [.slice A ws.length c, .int .i64 n] 62, row A ws.length c (ci .u64 ws) 63 1]) (G := [blk d [.slice A ws3.length c, .int .i64 n] 62, row A ws3.length c (ci .u64 ws3) 63 1]) H_
      clear H_
      refine ql (.bool (addB n L i)) (by kernel_rfl) (by kernel_rfl) ?_
      refine wpList_nil ?_
      refine x_then ?_
      refine wp_ret ?_
      refine x_inbR ?_
      refine x_thenR ?_
      refine ret_ (.bool (addB n L i)) (by kernel_rfl) ?_
      replace HS : St W M W5 [blk g [.pointer none, .pointer (some ⟨d, 0, none⟩), .int .i64 n] 53, blk d [.slice A ws3.length c, .int .i64 n] 62, row A ws3.length c (ci .u64 ws3) 63 1] := St.tail (F := []) (HS.perm (perm_ [2, 0, 1] (by kernel_rfl) rfl))
      exact ⟨.mny d c A ws3, rfl, St.close1 HS, ⟨hR4, hnp⟩, rfl⟩

theorem madd (g : Nat) (n : Int) (L : List Int) (x : MxF) (i : Int) (W : World) (M : Nat → Prop) (HS : St W M W [many (mxE 53 74 21 62 63 g n L x)]) (hx : x.ok n L) (h0 : 0 ≤ n) (hn : n ≤ 1048576) : Calls Tryd.prog 11 #[.pointer (some ⟨g, 0, none⟩), .int .i64 i] W fun e W' => ∃ x', e = .returned (.bool (addB n L i)) ∧ St W M W' [many (mxE 53 74 21 62 63 g n (addL n L i) x')] ∧ x'.ok n (addL n L i) ∧ x'.b = (x.b || decide (8 < (addL n L i).length)) := by
  rcases x with ⟨q, c, A⟩ | ⟨d, c, A, ws⟩
  · exact madd_few g q c A n L i W M HS.open1 hx.1 hx.2.1 hx.2.2 h0 hn
  · exact madd_mny g d c A ws n L i W M HS.open1 hx.1 hx.2 hn

set_option maxRecDepth 100000 in
set_option maxHeartbeats 1000000 in
theorem madd_nil (i : Int) (W : World) : Calls Tryd.prog 11 #[.pointer none, .int .i64 i] W fun e W' => e = .returned (.bool false) ∧ St W (owns []) W' [] := by
  have HS : St W (owns []) W [] := St.start W _
  refine calls_enter [.pointer none, .int .i64 i, undef, undef, undef, undef, undef, undef, undef, undef, undef, undef, undef, undef, undef, undef, undef, undef, undef, undef, undef, undef, undef, undef, undef, undef, undef, undef, undef, undef, undef, undef, undef, undef, undef, undef, undef, undef, undef, undef, undef, undef] Tryd.func11 rfl (by kernel_rfl) ?_
  refine wp_seq ?_
  refine wp_region_lit ?_
  refine ql (.bool false) (by kernel_rfl) (by kernel_rfl) ?_
  refine wpList_nil ?_
  refine x_then ?_
  refine wp_seq ?_
  refine wp_block ?_
  refine wp_seq ?_
  refine wp_region_lit ?_
  refine ql (.pointer none) (by kernel_rfl) (by kernel_rfl) ?_
  refine ql (.bool true) (by kernel_rfl) (by kernel_rfl) ?_
  refine ql (.bool true) (by kernel_rfl) (by kernel_rfl) ?_
  refine qln (by kernel_rfl) ?_
  refine qln (by kernel_rfl) ?_
  refine ql (.bool true) (by kernel_rfl) (by kernel_rfl) ?_
  refine ql (.bool true) (by kernel_rfl) (by kernel_rfl) ?_
  refine qln (by kernel_rfl) ?_
  refine qln (by kernel_rfl) ?_
  refine qln (by kernel_rfl) ?_
  refine qln (by kernel_rfl) ?_
  refine qln (by kernel_rfl) ?_
  refine qln (by kernel_rfl) ?_
  refine ql (.bool true) (by kernel_rfl) (by kernel_rfl) ?_
  refine ql (.bool true) (by kernel_rfl) (by kernel_rfl) ?_
  refine wpList_nil ?_
  refine x_then ?_
  refine wp_cond_true (by kernel_rfl) ?_
  refine wp_seq ?_
  refine wp_region_lit ?_
  refine ql (.bool false) (by kernel_rfl) (by kernel_rfl) ?_
  refine wpList_nil ?_
  refine x_then ?_
  refine wp_ret ?_
  refine x_inbR ?_
  refine x_thenR ?_
  refine ret_ (.bool false) (by kernel_rfl) ?_
  exact ⟨rfl, HS⟩

set_option maxRecDepth 100000 in
set_option maxHeartbeats 1000000 in
theorem mfill (g : Nat) (n : Int) (L : List Int) (x : MxF) (a b : Int) (W : World) (M : Nat → Prop) (HS : St W M W [many (mxE 53 74 21 62 63 g n L x)]) (hx : x.ok n L) (h0 : 0 ≤ n) (hn : n ≤ 1048576) : Calls Tryd.prog 17 #[.pointer (some ⟨g, 0, none⟩), .int .i64 a, .int .i64 b] W fun e W' => ∃ x', e = .returned (.tuple #[]) ∧ St W M W' [many (mxE 53 74 21 62 63 g n (filL n L a b) x')] ∧ x'.ok n (filL n L a b) ∧ x'.b = (x.b || decide (8 < (filL n L a b).length)) := by
  refine calls_enter [.pointer (some ⟨g, 0, none⟩), .int .i64 a, .int .i64 b, undef, undef, undef, undef, undef, undef, undef, undef, undef, undef, undef, undef, undef, undef, undef, undef, undef] Tryd.func17 rfl (by kernel_rfl) ?_
  refine wp_seq ?_
  refine wp_region_lit ?_
  refine ql (.int .i64 a) (by kernel_rfl) (by kernel_rfl) ?_
  refine ql (.int .i64 (max a (0 : Int))) (by kernel_rfl) (R_max (i := a) (j := 0) (by kernel_rfl) (by kernel_rfl)) ?_
  refine ql (.int .i64 (max a (0 : Int))) (by kernel_rfl) (by kernel_rfl) ?_
  refine wpList_nil ?_
  refine x_then ?_
  refine wp_block ?_
  refine wp_loop_ghost (fun kq a' w' => ∃ (J1 : Nat → Value) (i : Int) (L1 : List Int) (x1 : MxF) , a' = Fr [.pointer (some ⟨g, 0, none⟩), .int .i64 a, .int .i64 b, undef, undef, undef, .int .i64 i, .int .i64 a, .int .i64 (max a (0 : Int)), (J1 9), (J1 10), (J1 11), (J1 12), (J1 13), (J1 14), (J1 15), (J1 16), (J1 17), (J1 18), (J1 19)] ∧ kq = ((max (min b n) (max a 0) - i).toNat) ∧ (max a 0 ≤ i) ∧ (i ≤ max (min b n) (max a 0)) ∧ (FlP n a L L1 i) ∧ (x1.ok n L1) ∧ (x1.b = (x.b || decide (8 < L1.length))) ∧ St W M w' [many (mxE 53 74 21 62 63 g n L1 x1)]) ((max (min b n) (max a 0) - (max a 0)).toNat) ⟨(fun k_ : Nat => List.getD [.pointer (some ⟨g, 0, none⟩), .int .i64 a, .int .i64 b, undef, undef, undef, .int .i64 (max a (0 : Int)), .int .i64 a, .int .i64 (max a (0 : Int)), undef, undef, undef, undef, undef, undef, undef, undef, undef, undef, undef] k_ undef), max a 0, L, x, congrArg Fr (by kernel_rfl), rfl, by omega, by omega, flP_start n a L, hx, b_or hx, HS⟩ ?_
  clear HS
  intro kq2 a' W3 hrel
  obtain ⟨J1, i, L1, x1, rfl, hk, i0, i1, hF, hok, hb, HS⟩ := hrel
  refine wp_seq ?_
  refine wp_seq ?_
  refine wp_region_lit ?_
  refine ql (.int .i64 i) (by kernel_rfl) (by kernel_rfl) ?_
  refine ql (.int .i64 b) (by kernel_rfl) (by kernel_rfl) ?_
  refine ql (.pointer (some ⟨g, 0, none⟩)) (by kernel_rfl) (by kernel_rfl) ?_
  refine qc (f := 21) (args := #[.pointer (some ⟨g, 0, none⟩)]) (by kernel_rfl) (R_call #[.pointer (some ⟨g, 0, none⟩)] Tryd.func21 (by kernel_rfl) (by kernel_rfl) (by kernel_rfl)) ?_
  refine (msize g n _ (mx_n (HS.hasP (i := 0) rfl))).mono ?_
  rintro e W4 ⟨rfl, H_⟩
  refine ⟨_, rfl, ?_⟩
  replace HS : St W M W4 [many (mxE 53 74 21 62 63 g n L1 x1)] := HS.join (F := []) (G := []) H_
  clear H_
  refine ql (.int .i64 (min b n)) (by kernel_rfl) (R_min (i := b) (j := n) (by kernel_rfl) (by kernel_rfl)) ?_
  by_cases hc5 : i < (min b n)
  · skip
    refine ql (.bool true) (by kernel_rfl) (R_bool (p := i < (min b n)) (by kernel_rfl) (hc5)) ?_
    refine wpList_nil ?_
    refine x_then ?_
    refine wp_cond_true (by kernel_rfl) ?_
    refine wp_skip ?_
    refine x_then ?_
    refine wp_seq ?_
    refine wp_block ?_
    refine wp_region_lit ?_
    refine ql (.pointer (some ⟨g, 0, none⟩)) (by kernel_rfl) (by kernel_rfl) ?_
    refine ql (.int .i64 i) (by kernel_rfl) (by kernel_rfl) ?_
    refine qc (f := 11) (args := #[.pointer (some ⟨g, 0, none⟩), .int .i64 i]) (by kernel_rfl) (R_call #[.pointer (some ⟨g, 0, none⟩), .int .i64 i] Tryd.func11 (by kernel_rfl) (by kernel_rfl) (by kernel_rfl)) ?_
    refine (madd g n L1 x1 i _ _ (St.focus (F := [many (mxE 53 74 21 62 63 g n L1 x1)]) HS) hok (by omega) (by omega)).mono ?_
    rintro e W9 ⟨x6, rfl, H_, hok7, hb8⟩
    refine ⟨_, rfl, ?_⟩
    replace HS : St W M W9 [many (mxE 53 74 21 62 63 g n (addL n L1 i) x6)] := HS.join (F := [many (mxE 53 74 21 62 63 g n L1 x1)]) (G := [many (mxE 53 74 21 62 63 g n (addL n L1 i) x6)]) H_
    clear H_
    refine wpList_nil ?_
    refine x_inb ?_
    refine x_then ?_
    refine wp_region_lit ?_
    refine ql (.int .i64 i) (by kernel_rfl) (by kernel_rfl) ?_
    refine ql (.int .i64 (i + 1)) (by kernel_rfl) (R_int (by kernel_rfl) (w64 (by omega))) ?_
    refine ql (.int .i64 (i + 1)) (by kernel_rfl) (by kernel_rfl) ?_
    refine wpList_nil ?_
    refine x_then ?_
    exact ⟨(max (min b n) (max a 0) - (i + 1)).toNat, by omega, (fun k_ : Nat => List.getD [.pointer (some ⟨g, 0, none⟩), .int .i64 a, .int .i64 b, undef, undef, undef, .int .i64 (i + 1), .int .i64 a, .int .i64 (max a (0 : Int)), .int .i64 i, .int .i64 b, .pointer (some ⟨g, 0, none⟩), .int .i64 n, .int .i64 (min b n), .bool true, .int .i64 i, .int .i64 (i + 1), .pointer (some ⟨g, 0, none⟩), .int .i64 i, .bool (addB n L1 i)] k_ undef), i + 1, (addL n L1 i), x6, congrArg Fr (by kernel_rfl), rfl, by omega, by omega, flP_step hF (by omega), hok7, b_step hb hb8 (addL_ge n i L1), HS⟩
  · skip
    refine ql (.bool false) (by kernel_rfl) (R_nbool (p := i < (min b n)) (by kernel_rfl) (hc5)) ?_
    refine wpList_nil ?_
    refine x_then ?_
    refine wp_cond_false (by kernel_rfl) ?_
    refine wp_exit ?_
    refine x_thenE ?_
    refine x_thenE ?_
    refine x_hit ?_
    refine end_ (.tuple #[]) (by kernel_rfl) ?_
    have hq := flP_end hF i0 (b := b) (by omega) i1
    subst hq
    exact ⟨x1, rfl, HS, hok, hb⟩

set_option maxRecDepth 100000 in
set_option maxHeartbeats 1000000 in
theorem mawake (W : World) : Calls Tryd.prog 5 #[] W fun e W' => e = .returned (.bool true) ∧ St W (owns []) W' [] := by
  have HS : St W (owns []) W [] := St.start W _
  refine calls_enter [undef, undef, undef, undef, undef, undef, undef, undef, undef, undef, undef, undef, undef, undef, undef, undef, undef, undef, undef, undef, undef, undef, undef, undef, undef, undef, undef, undef, undef, undef, undef, undef, undef, undef, undef, undef, undef, undef] Tryd.func5 rfl (by kernel_rfl) ?_
  refine wp_seq ?_
  refine wp_region_lit ?_
  refine ql (.bool false) (by kernel_rfl) (by kernel_rfl) ?_
  refine wpList_nil ?_
  refine x_then ?_
  refine wp_seq ?_
  refine wp_region_lit ?_
  refine qc (f := 6) (args := #[.int .i64 100]) (by kernel_rfl) (R_call #[.int .i64 100] Tryd.func6 (by kernel_rfl) (by kernel_rfl) (by kernel_rfl)) ?_
  refine (mnew_ok 100 _ (by omega) (by omega)).mono ?_
  rintro e W5 ⟨g1, x2, rfl, H_, hok3, hb4⟩
  refine ⟨_, rfl, ?_⟩
  replace HS : St W (owns []) W5 [many (mxE 53 74 21 62 63 g1 100 ([]) x2)] := HS.join (F := []) (G := [many (mxE 53 74 21 62 63 g1 100 ([]) x2)]) H_
  clear H_
  refine ql (.tuple #[.pointer (some ⟨g1, 0, none⟩), .int .i64 0]) (by kernel_rfl) (by kernel_rfl) ?_
  refine ql (.pointer (some ⟨g1, 0, none⟩)) (by kernel_rfl) (by kernel_rfl) ?_
  refine ql (.int .i64 0) (by kernel_rfl) (by kernel_rfl) ?_
  refine ql (.pointer (some ⟨g1, 0, none⟩)) (by kernel_rfl) (by kernel_rfl) ?_
  refine ql (.int .i64 0) (by kernel_rfl) (by kernel_rfl) ?_
  refine wpList_nil ?_
  refine x_then ?_
  refine wp_seq ?_
  refine wp_region_lit ?_
  refine ql (.pointer (some ⟨g1, 0, none⟩)) (by kernel_rfl) (by kernel_rfl) ?_
  refine qc (f := 17) (args := #[.pointer (some ⟨g1, 0, none⟩), .int .i64 0, .int .i64 8]) (by kernel_rfl) (R_call #[.pointer (some ⟨g1, 0, none⟩), .int .i64 0, .int .i64 8] Tryd.func17 (by kernel_rfl) (by kernel_rfl) (by kernel_rfl)) ?_
  have hfl9 : (filL 100 ([]) 0 8) = [0, 1, 2, 3, 4, 5, 6, 7] := by decide
  refine (mfill g1 100 ([]) x2 0 8 _ _ (St.focus (F := [many (mxE 53 74 21 62 63 g1 100 ([]) x2)]) HS) hok3 (by omega) (by omega)).mono ?_
  rintro e W10 ⟨x6, rfl, H_, hok7, hb8⟩
  rw [hfl9] at H_ hok7 hb8
  refine ⟨_, rfl, ?_⟩
  replace HS : St W (owns []) W10 [many (mxE 53 74 21 62 63 g1 100 ([0, 1, 2, 3, 4, 5, 6, 7]) x6)] := HS.join (F := [many (mxE 53 74 21 62 63 g1 100 ([]) x2)]) (G := [many (mxE 53 74 21 62 63 g1 100 ([0, 1, 2, 3, 4, 5, 6, 7]) x6)]) H_
  clear H_
  refine wpList_nil ?_
  refine x_then ?_
  refine wp_seq ?_
  refine wp_region_lit ?_
  refine ql (.pointer (some ⟨g1, 0, none⟩)) (by kernel_rfl) (by kernel_rfl) ?_
  refine qc (f := 23) (args := #[.pointer (some ⟨g1, 0, none⟩)]) (by kernel_rfl) (R_call #[.pointer (some ⟨g1, 0, none⟩)] Tryd.func23 (by kernel_rfl) (by kernel_rfl) (by kernel_rfl)) ?_
  have hbf : x6.b = false := by rw [hb8, hb4]; rfl
  refine (mdense g1 100 [0, 1, 2, 3, 4, 5, 6, 7] x6 _ (HS.hasP (i := 0) rfl) hok7 (by omega) (by omega)).mono ?_
  rintro e W11 ⟨rfl, H_⟩
  rw [hbf]
  refine ⟨_, rfl, ?_⟩
  replace HS : St W (owns []) W11 [many (mxE 53 74 21 62 63 g1 100 ([0, 1, 2, 3, 4, 5, 6, 7]) x6)] := HS.join (F := []) (G := []) H_
  clear H_
  refine ql (.bool false) (by kernel_rfl) (by kernel_rfl) ?_
  refine wpList_nil ?_
  refine x_then ?_
  refine wp_seq ?_
  refine wp_region_lit ?_
  refine ql (.pointer (some ⟨g1, 0, none⟩)) (by kernel_rfl) (by kernel_rfl) ?_
  refine qc (f := 11) (args := #[.pointer (some ⟨g1, 0, none⟩), .int .i64 8]) (by kernel_rfl) (R_call #[.pointer (some ⟨g1, 0, none⟩), .int .i64 8] Tryd.func11 (by kernel_rfl) (by kernel_rfl) (by kernel_rfl)) ?_
  have ha8 : addL 100 [0, 1, 2, 3, 4, 5, 6, 7] 8 = [0, 1, 2, 3, 4, 5, 6, 7, 8] := by decide
  have hb8 : addB 100 [0, 1, 2, 3, 4, 5, 6, 7] 8 = true := by decide
  refine (madd g1 100 [0, 1, 2, 3, 4, 5, 6, 7] x6 8 _ _ (St.focus (F := [many (mxE 53 74 21 62 63 g1 100 ([0, 1, 2, 3, 4, 5, 6, 7]) x6)]) HS) hok7 (by omega) (by omega)).mono ?_
  rintro e W15 ⟨x12, rfl, H_, hok13, hb14⟩
  rw [ha8] at H_ hok13 hb14
  rw [hb8]
  refine ⟨_, rfl, ?_⟩
  replace HS : St W (owns []) W15 [many (mxE 53 74 21 62 63 g1 100 ([0, 1, 2, 3, 4, 5, 6, 7, 8]) x12)] := HS.join (F := [many (mxE 53 74 21 62 63 g1 100 ([0, 1, 2, 3, 4, 5, 6, 7]) x6)]) (G := [many (mxE 53 74 21 62 63 g1 100 ([0, 1, 2, 3, 4, 5, 6, 7, 8]) x12)]) H_
  clear H_
  refine ql (.bool true) (by kernel_rfl) (by kernel_rfl) ?_
  refine wpList_nil ?_
  refine x_then ?_
  refine wp_seq ?_
  refine wp_region_lit ?_
  refine ql (.int .i64 0) (by kernel_rfl) (by kernel_rfl) ?_
  refine ql (.bool true) (by kernel_rfl) (R_beq (b := ((0 : Int) == 0)) (by kernel_rfl) (by decide)) ?_
  refine ql (.bool true) (by kernel_rfl) (by kernel_rfl) ?_
  refine ql (.bool false) (by kernel_rfl) (by kernel_rfl) ?_
  refine ql (.bool true) (by kernel_rfl) (by kernel_rfl) ?_
  refine ql (.bool true) (by kernel_rfl) (by kernel_rfl) ?_
  refine ql (.bool true) (by kernel_rfl) (by kernel_rfl) ?_
  refine ql (.bool true) (by kernel_rfl) (by kernel_rfl) ?_
  refine ql (.bool true) (by kernel_rfl) (by kernel_rfl) ?_
  refine ql (.bool true) (by kernel_rfl) (by kernel_rfl) ?_
  refine ql (.pointer (some ⟨g1, 0, none⟩)) (by kernel_rfl) (by kernel_rfl) ?_
  refine qc (f := 23) (args := #[.pointer (some ⟨g1, 0, none⟩)]) (by kernel_rfl) (R_call #[.pointer (some ⟨g1, 0, none⟩)] Tryd.func23 (by kernel_rfl) (by kernel_rfl) (by kernel_rfl)) ?_
  have hbt : x12.b = true := by rw [hb14, hbf]; rfl
  refine (mdense g1 100 [0, 1, 2, 3, 4, 5, 6, 7, 8] x12 _ (HS.hasP (i := 0) rfl) hok13 (by omega) (by omega)).mono ?_
  rintro e W16 ⟨rfl, H_⟩
  rw [hbt]
  refine ⟨_, rfl, ?_⟩
  replace HS : St W (owns []) W16 [many (mxE 53 74 21 62 63 g1 100 ([0, 1, 2, 3, 4, 5, 6, 7, 8]) x12)] := HS.join (F := []) (G := []) H_
  clear H_
  refine ql (.bool true) (by kernel_rfl) (by kernel_rfl) ?_
  refine ql (.bool true) (by kernel_rfl) (by kernel_rfl) ?_
  refine ql (.pointer (some ⟨g1, 0, none⟩)) (by kernel_rfl) (by kernel_rfl) ?_
  refine qc (f := 24) (args := #[.pointer (some ⟨g1, 0, none⟩)]) (by kernel_rfl) (R_call #[.pointer (some ⟨g1, 0, none⟩)] Tryd.func24 (by kernel_rfl) (by kernel_rfl) (by kernel_rfl)) ?_
  have hwd : wrd x12 100 [0, 1, 2, 3, 4, 5, 6, 7, 8] = 2 := by unfold wrd; rw [hbt]; rfl
  refine (mwords g1 100 [0, 1, 2, 3, 4, 5, 6, 7, 8] x12 _ (HS.hasP (i := 0) rfl) hok13 (by omega) (by omega)).mono ?_
  rintro e W17 ⟨rfl, H_⟩
  rw [hwd]
  refine ⟨_, rfl, ?_⟩
  replace HS : St W (owns []) W17 [many (mxE 53 74 21 62 63 g1 100 ([0, 1, 2, 3, 4, 5, 6, 7, 8]) x12)] := HS.join (F := []) (G := []) H_
  clear H_
  refine ql (.bool true) (by kernel_rfl) (R_beq (b := ((2 : Int) == 2)) (by kernel_rfl) (by decide)) ?_
  refine ql (.bool true) (by kernel_rfl) (by kernel_rfl) ?_
  refine ql (.bool true) (by kernel_rfl) (by kernel_rfl) ?_
  refine ql (.pointer (some ⟨g1, 0, none⟩)) (by kernel_rfl) (by kernel_rfl) ?_
  refine qc (f := 13) (args := #[.pointer (some ⟨g1, 0, none⟩)]) (by kernel_rfl) (R_call #[.pointer (some ⟨g1, 0, none⟩)] Tryd.func13 (by kernel_rfl) (by kernel_rfl) (by kernel_rfl)) ?_
  refine (mlen g1 100 [0, 1, 2, 3, 4, 5, 6, 7, 8] x12 _ (HS.hasP (i := 0) rfl) hok13 (by omega) (by omega)).mono ?_
  rintro e W18 ⟨rfl, H_⟩
  rw [show (([0, 1, 2, 3, 4, 5, 6, 7, 8] : List Int).length : Int) = 9 from rfl]
  refine ⟨_, rfl, ?_⟩
  replace HS : St W (owns []) W18 [many (mxE 53 74 21 62 63 g1 100 ([0, 1, 2, 3, 4, 5, 6, 7, 8]) x12)] := HS.join (F := []) (G := []) H_
  clear H_
  refine ql (.bool true) (by kernel_rfl) (R_beq (b := ((9 : Int) == 9)) (by kernel_rfl) (by decide)) ?_
  refine ql (.bool true) (by kernel_rfl) (by kernel_rfl) ?_
  refine ql (.bool true) (by kernel_rfl) (by kernel_rfl) ?_
  refine wpList_nil ?_
  refine x_then ?_
  refine wp_ret ?_
  refine ret_ (.bool true) (by kernel_rfl) ?_
  replace HS := HS.drop1
  exact ⟨rfl, HS⟩

set_option maxRecDepth 100000 in
set_option maxHeartbeats 1000000 in
theorem mor_nl (h : Nat) (W : World) : Calls Tryd.prog 22 #[.pointer none, .pointer (some ⟨h, 0, none⟩)] W fun e W' => e = .returned (.bool false) ∧ St W (owns []) W' [] := by
  have HS : St W (owns []) W [] := St.start W _
  refine calls_enterM ((.pointer none) :: (.pointer (some ⟨h, 0, none⟩)) :: undef :: undef :: undef :: undef :: undef :: undef :: undef :: undef :: undef :: undef :: undef :: undef :: undef :: undef :: undef :: undef :: undef :: undef :: undef :: undef :: undef :: undef :: undef :: undef :: undef :: undef :: undef :: undef :: undef :: undef :: undef :: undef :: undef :: undef :: undef :: undef :: undef :: undef :: undef :: undef :: undef :: undef :: undef :: undef :: undef :: undef :: undef :: undef :: undef :: undef :: undef :: undef :: undef :: undef :: undef :: undef :: undef :: undef :: undef :: undef :: undef :: undef :: undef :: undef :: undef :: undef :: undef :: undef :: undef :: undef :: undef :: undef :: undef :: undef :: undef :: undef :: undef :: undef :: undef :: undef :: undef :: undef :: undef :: undef :: undef :: undef :: undef :: undef :: undef :: undef :: undef :: undef :: undef :: undef :: undef :: undef :: undef :: undef :: undef :: undef :: undef :: undef :: undef :: undef :: undef :: undef :: undef :: undef :: undef :: undef :: undef :: undef :: undef :: undef :: undef :: undef :: undef :: undef :: undef :: undef :: undef :: undef :: undef :: undef :: undef :: undef :: undef :: []) Tryd.func22 rfl (by kernel_rfl) ?_
  refine wp_seq ?_
  refine wp_region_lit ?_
  refine kb HS [.pointer none] 24 (fun g => .pointer (some ⟨g, 0, none⟩)) (by kernel_rfl) (by kernel_rfl) ?_
  intro g1 W2 H_
  replace HS : St W (owns []) W2 [blk g1 [.pointer none] 24] := H_
  clear H_
  refine ql (.bool false) (by kernel_rfl) (by kernel_rfl) ?_
  refine wpList_nil ?_
  refine x_then ?_
  refine wp_seq ?_
  refine wp_block ?_
  refine wp_seq ?_
  refine rg_still HS 17 (by kernel_rfl) (by kernel_rfl) ?_
  intro W3 H_ HK_
  simp only [List.take_succ_cons, List.take_zero, List.drop_succ_cons, List.drop_zero]
  replace HS : St W (owns []) W3 [blk g1 [.pointer none] 24] := H_
  clear H_
  clear HK_
  refine qs (.pointer none) (by kernel_rfl) (R_load (p := ⟨g1, 0, none⟩) (by kernel_rfl) (by kernel_rfl) (by kernel_rfl) (HS.cell (i := 0) (j := 0) rfl rfl)) ?_
  refine qs (.bool true) (by kernel_rfl) (by kernel_rfl) ?_
  refine qs (.bool true) (by kernel_rfl) (by kernel_rfl) ?_
  refine qsn (by kernel_rfl) ?_
  refine qsn (by kernel_rfl) ?_
  refine qs (.bool true) (by kernel_rfl) (by kernel_rfl) ?_
  refine qs (.bool true) (by kernel_rfl) (by kernel_rfl) ?_
  refine qsn (by kernel_rfl) ?_
  refine qsn (by kernel_rfl) ?_
  refine qsn (by kernel_rfl) ?_
  refine qsn (by kernel_rfl) ?_
  refine qsn (by kernel_rfl) ?_
  refine qsn (by kernel_rfl) ?_
  refine qsn (by kernel_rfl) ?_
  refine qsn (by kernel_rfl) ?_
  refine qsn (by kernel_rfl) ?_
  refine qs (.bool true) (by kernel_rfl) (by kernel_rfl) ?_
  refine wpStill_nil ?_
  refine ql (.bool true) (by kernel_rfl) (by kernel_rfl) ?_
  refine wpList_nil ?_
  refine x_then ?_
  refine wp_cond_true (by kernel_rfl) ?_
  refine wp_seq ?_
  refine wp_region_lit ?_
  refine ql (.bool false) (by kernel_rfl) (by kernel_rfl) ?_
  refine wpList_nil ?_
  refine x_then ?_
  refine wp_ret ?_
  refine x_inbR ?_
  refine x_thenR ?_
  refine retM_ (.bool false) (by kernel_rfl) ?_
  replace HS := HS.drop1
  exact ⟨rfl, HS⟩

set_option maxRecDepth 100000 in
set_option maxHeartbeats 1000000 in
theorem mor_nr (g : Nat) (W : World) : Calls Tryd.prog 22 #[.pointer (some ⟨g, 0, none⟩), .pointer none] W fun e W' => e = .returned (.bool false) ∧ St W (owns []) W' [] := by
  have HS : St W (owns []) W [] := St.start W _
  refine calls_enterM ((.pointer (some ⟨g, 0, none⟩)) :: (.pointer none) :: undef :: undef :: undef :: undef :: undef :: undef :: undef :: undef :: undef :: undef :: undef :: undef :: undef :: undef :: undef :: undef :: undef :: undef :: undef :: undef :: undef :: undef :: undef :: undef :: undef :: undef :: undef :: undef :: undef :: undef :: undef :: undef :: undef :: undef :: undef :: undef :: undef :: undef :: undef :: undef :: undef :: undef :: undef :: undef :: undef :: undef :: undef :: undef :: undef :: undef :: undef :: undef :: undef :: undef :: undef :: undef :: undef :: undef :: undef :: undef :: undef :: undef :: undef :: undef :: undef :: undef :: undef :: undef :: undef :: undef :: undef :: undef :: undef :: undef :: undef :: undef :: undef :: undef :: undef :: undef :: undef :: undef :: undef :: undef :: undef :: undef :: undef :: undef :: undef :: undef :: undef :: undef :: undef :: undef :: undef :: undef :: undef :: undef :: undef :: undef :: undef :: undef :: undef :: undef :: undef :: undef :: undef :: undef :: undef :: undef :: undef :: undef :: undef :: undef :: undef :: undef :: undef :: undef :: undef :: undef :: undef :: undef :: undef :: undef :: undef :: undef :: undef :: []) Tryd.func22 rfl (by kernel_rfl) ?_
  refine wp_seq ?_
  refine wp_region_lit ?_
  refine kb HS [.pointer (some ⟨g, 0, none⟩)] 24 (fun g => .pointer (some ⟨g, 0, none⟩)) (by kernel_rfl) (by kernel_rfl) ?_
  intro g1 W2 H_
  replace HS : St W (owns []) W2 [blk g1 [.pointer (some ⟨g, 0, none⟩)] 24] := H_
  clear H_
  refine ql (.bool false) (by kernel_rfl) (by kernel_rfl) ?_
  refine wpList_nil ?_
  refine x_then ?_
  refine wp_seq ?_
  refine wp_block ?_
  refine wp_seq ?_
  refine rg_still HS 17 (by kernel_rfl) (by kernel_rfl) ?_
  intro W3 H_ HK_
  simp only [List.take_succ_cons, List.take_zero, List.drop_succ_cons, List.drop_zero]
  replace HS : St W (owns []) W3 [blk g1 [.pointer (some ⟨g, 0, none⟩)] 24] := H_
  clear H_
  clear HK_
  refine qs (.pointer (some ⟨g, 0, none⟩)) (by kernel_rfl) (R_load (p := ⟨g1, 0, none⟩) (by kernel_rfl) (by kernel_rfl) (by kernel_rfl) (HS.cell (i := 0) (j := 0) rfl rfl)) ?_
  refine qs (.bool false) (by kernel_rfl) (by kernel_rfl) ?_
  refine qs (.bool false) (by kernel_rfl) (by kernel_rfl) ?_
  refine qs (.pointer none) (by kernel_rfl) (by kernel_rfl) ?_
  refine qs (.bool true) (by kernel_rfl) (by kernel_rfl) ?_
  refine qs (.bool true) (by kernel_rfl) (by kernel_rfl) ?_
  refine qs (.bool true) (by kernel_rfl) (by kernel_rfl) ?_
  refine qsn (by kernel_rfl) ?_
  refine qsn (by kernel_rfl) ?_
  refine qsn (by kernel_rfl) ?_
  refine qsn (by kernel_rfl) ?_
  refine qsn (by kernel_rfl) ?_
  refine qsn (by kernel_rfl) ?_
  refine qsn (by kernel_rfl) ?_
  refine qsn (by kernel_rfl) ?_
  refine qsn (by kernel_rfl) ?_
  refine qs (.bool true) (by kernel_rfl) (by kernel_rfl) ?_
  refine wpStill_nil ?_
  refine ql (.bool true) (by kernel_rfl) (by kernel_rfl) ?_
  refine wpList_nil ?_
  refine x_then ?_
  refine wp_cond_true (by kernel_rfl) ?_
  refine wp_seq ?_
  refine wp_region_lit ?_
  refine ql (.bool false) (by kernel_rfl) (by kernel_rfl) ?_
  refine wpList_nil ?_
  refine x_then ?_
  refine wp_ret ?_
  refine x_inbR ?_
  refine x_thenR ?_
  refine retM_ (.bool false) (by kernel_rfl) ?_
  replace HS := HS.drop1
  exact ⟨rfl, HS⟩

set_option maxRecDepth 100000 in
set_option maxHeartbeats 1000000 in
theorem mall_few (g q c : Nat) (A : Option Addr) (n : Int) (L : List Int) (W : World) (hz0 : W.cell? ⟨g, 0, none⟩ = some (.pointer (some ⟨q, 0, none⟩))) (hz1 : W.cell? ⟨g, 1, none⟩ = some (.pointer none)) (hz2 : W.cell? ⟨g, 2, none⟩ = some (.int .i64 n)) (hq0 : W.cell? ⟨q, 0, none⟩ = some (.slice A L.length c)) (hr : Rd W A (ci .i32 L)) (hs : S31 L) (hl : L.length ≤ 100000) : Calls Tryd.prog 38 #[.pointer (some ⟨g, 0, none⟩)] W fun e W' => ∃ b, e = .returned (.func (.func 53) #[] #[.pointer (some ⟨b, 0, none⟩)]) ∧ St W (owns []) W' [blk b [.pointer (some ⟨q, 0, none⟩)] 50] := by
  have HS : St W (owns []) W [] := St.start W _
  refine calls_enter [.pointer (some ⟨g, 0, none⟩), undef, undef, undef, undef, undef, undef, undef, undef, undef, undef, undef, undef, undef, undef, undef, undef, undef] Tryd.func38 rfl (by kernel_rfl) ?_
  refine wp_seq ?_
  refine wp_region_lit ?_
  refine ql (.nilFunc) (by kernel_rfl) (by kernel_rfl) ?_
  refine wpList_nil ?_
  refine x_then ?_
  refine wp_seq ?_
  refine wp_seq ?_
  refine wp_region_lit ?_
  refine ql (.pointer (some ⟨g, 0, none⟩)) (by kernel_rfl) (by kernel_rfl) ?_
  refine qc (f := 23) (args := #[.pointer (some ⟨g, 0, none⟩)]) (by kernel_rfl) (R_call #[.pointer (some ⟨g, 0, none⟩)] Tryd.func23 (by kernel_rfl) (by kernel_rfl) (by kernel_rfl)) ?_
  refine (mdense_few g q c A n L _ (HS.old0 hz0) (HS.old0 hz1) (HS.old0 hz2) (HS.old0 hq0) (hr.old0 HS) hs hl).mono ?_
  rintro e W1 ⟨rfl, H_⟩
  refine ⟨_, rfl, ?_⟩
  replace HS : St W (owns []) W1 [] := HS.join (F := []) (G := []) H_
  clear H_
  refine wpList_nil ?_
  refine x_then ?_
  refine wp_cond_false (by kernel_rfl) ?_
  refine wp_skip ?_
  refine x_then ?_
  refine wp_seq ?_
  refine wp_seq ?_
  refine wp_region_lit ?_
  refine ql (.pointer (some ⟨g, 0, none⟩)) (by kernel_rfl) (by kernel_rfl) ?_
  refine ql (.bool false) (by kernel_rfl) (by kernel_rfl) ?_
  refine wpList_nil ?_
  refine x_then ?_
  refine wp_cond_false (by kernel_rfl) ?_
  refine wp_skip ?_
  refine x_then ?_
  refine wp_seq ?_
  refine wp_region_lit ?_
  refine ql (.pointer (some ⟨g, 0, none⟩)) (by kernel_rfl) (by kernel_rfl) ?_
  refine ql (.pointer (some ⟨g, 0, none⟩)) (by kernel_rfl) (by kernel_rfl) ?_
  refine ql (.pointer (some ⟨g, 0, none⟩)) (by kernel_rfl) (by kernel_rfl) ?_
  refine ql (.pointer (some ⟨q, 0, none⟩)) (by kernel_rfl) (R_load (p := ⟨g, 0, none⟩) (by kernel_rfl) (by kernel_rfl) (by kernel_rfl) (HS.old0 hz0)) ?_
  refine qc (f := 43) (args := #[.pointer (some ⟨q, 0, none⟩)]) (by kernel_rfl) (R_call #[.pointer (some ⟨q, 0, none⟩)] Tryd.func43 (by kernel_rfl) (by kernel_rfl) (by kernel_rfl)) ?_
  refine (sall q _).mono ?_
  rintro e W3 ⟨b2, rfl, H_⟩
  refine ⟨_, rfl, ?_⟩
  replace HS : St W (owns []) W3 [blk b2 [.pointer (some ⟨q, 0, none⟩)] 50] := HS.join (F := []) (G := [blk b2 [.pointer (some ⟨q, 0, none⟩)] 50]) H_
  clear H_
  refine ql (.func (.func 53) #[] #[.pointer (some ⟨b2, 0, none⟩)]) (by kernel_rfl) (by kernel_rfl) ?_
  refine wpList_nil ?_
  refine x_then ?_
  refine wp_ret ?_
  refine ret_ (.func (.func 53) #[] #[.pointer (some ⟨b2, 0, none⟩)]) (by kernel_rfl) ?_
  exact ⟨_, rfl, HS⟩

set_option maxRecDepth 100000 in
set_option maxHeartbeats 1000000 in
theorem mlist_few (g q c : Nat) (A : Option Addr) (n : Int) (L : List Int) (W : World) (hz0 : W.cell? ⟨g, 0, none⟩ = some (.pointer (some ⟨q, 0, none⟩))) (hz1 : W.cell? ⟨g, 1, none⟩ = some (.pointer none)) (hz2 : W.cell? ⟨g, 2, none⟩ = some (.int .i64 n)) (hq0 : W.cell? ⟨q, 0, none⟩ = some (.slice A L.length c)) (hr : Rd W A (ci .i32 L)) (hs : S31 L) (hl : L.length ≤ 100000) (hT : TabAt64 W) : Calls Tryd.prog 19 #[.pointer (some ⟨g, 0, none⟩)] W fun e W' => ∃ A' c', e = .returned (.slice A' L.length c') ∧ St W (owns []) W' [row A' L.length c' (ci .i64 L) 3 1] := by
  have HS : St W (owns []) W [] := St.start W _
  refine calls_enter [.pointer (some ⟨g, 0, none⟩), undef, undef, undef, undef, undef] Tryd.func19 rfl (by kernel_rfl) ?_
  refine wp_seq ?_
  refine wp_region_lit ?_
  refine ql (.slice none 0 0) (by kernel_rfl) (by kernel_rfl) ?_
  refine wpList_nil ?_
  refine x_then ?_
  refine wp_seq ?_
  refine wp_region_lit ?_
  refine ql (.pointer (some ⟨g, 0, none⟩)) (by kernel_rfl) (by kernel_rfl) ?_
  refine qc (f := 38) (args := #[.pointer (some ⟨g, 0, none⟩)]) (by kernel_rfl) (R_call #[.pointer (some ⟨g, 0, none⟩)] Tryd.func38 (by kernel_rfl) (by kernel_rfl) (by kernel_rfl)) ?_
  refine (mall_few g q c A n L _ (HS.old0 hz0) (HS.old0 hz1) (HS.old0 hz2) (HS.old0 hq0) (hr.old0 HS) hs hl).mono ?_
  rintro e W2 ⟨b1, rfl, H_⟩
  refine ⟨_, rfl, ?_⟩
  replace HS : St W (owns []) W2 [blk b1 [.pointer (some ⟨q, 0, none⟩)] 50] := HS.join (F := []) (G := [blk b1 [.pointer (some ⟨q, 0, none⟩)] 50]) H_
  clear H_
  refine qc (f := 37) (args := #[.func (.func 53) #[] #[.pointer (some ⟨b1, 0, none⟩)]]) (by kernel_rfl) (R_call #[.func (.func 53) #[] #[.pointer (some ⟨b1, 0, none⟩)]] Tryd.func37 (by kernel_rfl) (by kernel_rfl) (by kernel_rfl)) ?_
  have HDT : SpT b1 q c A L _ := ⟨HS.cell (i := 0) (j := 0) rfl rfl, HS.old0 hq0, hr.old0 HS⟩
  refine (colS 53 #[.pointer (some ⟨b1, 0, none⟩)] _ (enters_of Tryd.func53 (by kernel_rfl) rfl) (sall_stops b1 q c A L _ HDT.hb HDT.h0 HDT.hr hs hl 0) (fun h_ k_ => fun x_ => k_ (h_ x_)) (fun X Y hb_ => SpK.of HDT hb_) (by omega)).mono ?_
  rintro e W3 ⟨A8, c8, xs8, hS8, rfl, H_⟩
  have hS8 : L = xs8 := hS8.symm
  subst hS8
  refine ⟨_, rfl, ?_⟩
  replace HS : St W (owns []) W3 [row A8 L.length c8 (ci .i64 L) 3 1, blk b1 [.pointer (some ⟨q, 0, none⟩)] 50] := HS.join (F := []) (G := [row A8 L.length c8 (ci .i64 L) 3 1]) H_
  clear H_
  refine ql (.slice A8 L.length c8) (by kernel_rfl) (by kernel_rfl) ?_
  refine wpList_nil ?_
  refine x_then ?_
  refine wp_ret ?_
  refine ret_ (.slice A8 L.length c8) (by kernel_rfl) ?_
  replace HS : St W (owns []) W3 [row A8 L.length c8 (ci .i64 L) 3 1] := St.tail (F := [blk b1 [.pointer (some ⟨q, 0, none⟩)] 50]) (HS.perm (perm_ [1, 0] (by kernel_rfl) rfl))
  exact ⟨A8, c8, rfl, HS⟩

set_option maxRecDepth 100000 in
set_option maxHeartbeats 1000000 in
theorem mall_mny (g d c : Nat) (A : Option Addr) (ws : List Int) (n : Int) (L : List Int) (W : World) (hz0 : W.cell? ⟨g, 0, none⟩ = some (.pointer none)) (hz1 : W.cell? ⟨g, 1, none⟩ = some (.pointer (some ⟨d, 0, none⟩))) (hz2 : W.cell? ⟨g, 2, none⟩ = some (.int .i64 n)) (hd0 : W.cell? ⟨d, 0, none⟩ = some (.slice A ws.length c)) (hd1 : W.cell? ⟨d, 1, none⟩ = some (.int .i64 n)) (hr : Rd W A (ci .u64 ws)) (hR : Rep ws n L) (hn : n ≤ 1048576) (h0 : 0 ≤ n) : Calls Tryd.prog 38 #[.pointer (some ⟨g, 0, none⟩)] W fun e W' => ∃ b, e = .returned (.func (.func 50) #[] #[.pointer (some ⟨b, 0, none⟩)]) ∧ St W (owns []) W' [blk b [.pointer (some ⟨d, 0, none⟩)] 40] := by
  have HS : St W (owns []) W [] := St.start W _
  refine calls_enter [.pointer (some ⟨g, 0, none⟩), undef, undef, undef, undef, undef, undef, undef, undef, undef, undef, undef, undef, undef, undef, undef, undef, undef] Tryd.func38 rfl (by kernel_rfl) ?_
  refine wp_seq ?_
  refine wp_region_lit ?_
  refine ql (.nilFunc) (by kernel_rfl) (by kernel_rfl) ?_
  refine wpList_nil ?_
  refine x_then ?_
  refine wp_seq ?_
  refine wp_seq ?_
  refine wp_region_lit ?_
  refine ql (.pointer (some ⟨g, 0, none⟩)) (by kernel_rfl) (by kernel_rfl) ?_
  refine qc (f := 23) (args := #[.pointer (some ⟨g, 0, none⟩)]) (by kernel_rfl) (R_call #[.pointer (some ⟨g, 0, none⟩)] Tryd.func23 (by kernel_rfl) (by kernel_rfl) (by kernel_rfl)) ?_
  refine (mdense_mny g d c A ws n L _ (HS.old0 hz0) (HS.old0 hz1) (HS.old0 hz2) (HS.old0 hd0) (HS.old0 hd1) (hr.old0 HS) hR hn h0).mono ?_
  rintro e W1 ⟨rfl, H_⟩
  refine ⟨_, rfl, ?_⟩
  replace HS : St W (owns []) W1 [] := HS.join (F := []) (G := []) H_
  clear H_
  refine wpList_nil ?_
  refine x_then ?_
  refine wp_cond_true (by kernel_rfl) ?_
  refine wp_seq ?_
  refine wp_region_lit ?_
  refine ql (.pointer (some ⟨g, 0, none⟩)) (by kernel_rfl) (by kernel_rfl) ?_
  refine ql (.pointer (some ⟨g, 0, none⟩)) (by kernel_rfl) (by kernel_rfl) ?_
  refine ql (.pointer (some ⟨g, 1, none⟩)) (by kernel_rfl) (by kernel_rfl) ?_
  refine ql (.pointer (some ⟨d, 0, none⟩)) (by kernel_rfl) (R_load (p := ⟨g, 1, none⟩) (by kernel_rfl) (by kernel_rfl) (by kernel_rfl) (HS.old0 hz1)) ?_
  refine qc (f := 39) (args := #[.pointer (some ⟨d, 0, none⟩)]) (by kernel_rfl) (R_call #[.pointer (some ⟨d, 0, none⟩)] Tryd.func39 (by kernel_rfl) (by kernel_rfl) (by kernel_rfl)) ?_
  refine (dall d _).mono ?_
  rintro e W3 ⟨b2, rfl, H_⟩
  refine ⟨_, rfl, ?_⟩
  replace HS : St W (owns []) W3 [blk b2 [.pointer (some ⟨d, 0, none⟩)] 40] := HS.join (F := []) (G := [blk b2 [.pointer (some ⟨d, 0, none⟩)] 40]) H_
  clear H_
  refine ql (.func (.func 50) #[] #[.pointer (some ⟨b2, 0, none⟩)]) (by kernel_rfl) (by kernel_rfl) ?_
  refine wpList_nil ?_
  refine x_then ?_
  refine wp_ret ?_
  refine x_thenR ?_
  refine ret_ (.func (.func 50) #[] #[.pointer (some ⟨b2, 0, none⟩)]) (by kernel_rfl) ?_
  exact ⟨_, rfl, HS⟩

set_option maxRecDepth 100000 in
set_option maxHeartbeats 1000000 in
theorem mlist_mny (g d c : Nat) (A : Option Addr) (ws : List Int) (n : Int) (L : List Int) (W : World) (hz0 : W.cell? ⟨g, 0, none⟩ = some (.pointer none)) (hz1 : W.cell? ⟨g, 1, none⟩ = some (.pointer (some ⟨d, 0, none⟩))) (hz2 : W.cell? ⟨g, 2, none⟩ = some (.int .i64 n)) (hd0 : W.cell? ⟨d, 0, none⟩ = some (.slice A ws.length c)) (hd1 : W.cell? ⟨d, 1, none⟩ = some (.int .i64 n)) (hr : Rd W A (ci .u64 ws)) (hR : Rep ws n L) (hn : n ≤ 1048576) (h0 : 0 ≤ n) (hT : TabAt64 W) : Calls Tryd.prog 19 #[.pointer (some ⟨g, 0, none⟩)] W fun e W' => ∃ A' c', e = .returned (.slice A' L.length c') ∧ St W (owns []) W' [row A' L.length c' (ci .i64 L) 3 1] := by
  have HS : St W (owns []) W [] := St.start W _
  refine calls_enter [.pointer (some ⟨g, 0, none⟩), undef, undef, undef, undef, undef] Tryd.func19 rfl (by kernel_rfl) ?_
  refine wp_seq ?_
  refine wp_region_lit ?_
  refine ql (.slice none 0 0) (by kernel_rfl) (by kernel_rfl) ?_
  refine wpList_nil ?_
  refine x_then ?_
  refine wp_seq ?_
  refine wp_region_lit ?_
  refine ql (.pointer (some ⟨g, 0, none⟩)) (by kernel_rfl) (by kernel_rfl) ?_
  refine qc (f := 38) (args := #[.pointer (some ⟨g, 0, none⟩)]) (by kernel_rfl) (R_call #[.pointer (some ⟨g, 0, none⟩)] Tryd.func38 (by kernel_rfl) (by kernel_rfl) (by kernel_rfl)) ?_
  refine (mall_mny g d c A ws n L _ (HS.old0 hz0) (HS.old0 hz1) (HS.old0 hz2) (HS.old0 hd0) (HS.old0 hd1) (hr.old0 HS) hR hn h0).mono ?_
  rintro e W2 ⟨b1, rfl, H_⟩
  refine ⟨_, rfl, ?_⟩
  replace HS : St W (owns []) W2 [blk b1 [.pointer (some ⟨d, 0, none⟩)] 40] := HS.join (F := []) (G := [blk b1 [.pointer (some ⟨d, 0, none⟩)] 40]) H_
  clear H_
  refine qc (f := 37) (args := #[.func (.func 50) #[] #[.pointer (some ⟨b1, 0, none⟩)]]) (by kernel_rfl) (R_call #[.func (.func 50) #[] #[.pointer (some ⟨b1, 0, none⟩)]] Tryd.func37 (by kernel_rfl) (by kernel_rfl) (by kernel_rfl)) ?_
  have HDT : DnT b1 d c A ws n _ := ⟨⟨HS.cell (i := 0) (j := 0) rfl rfl, HS.old0 hd0, HS.old0 hd1, hr.old0 HS⟩, hT.old0 HS⟩
  have hll := hR.llen
  refine (colS 50 #[.pointer (some ⟨b1, 0, none⟩)] _ (enters_of Tryd.func50 (by kernel_rfl) rfl) (dall_stops b1 d c A ws n L _ HDT.1.hb HDT.1.h0 HDT.1.h1 HDT.1.hr hR hn HDT.2 0) (fun h_ k_ => fun x_ => k_ (h_ x_)) (fun X Y hb_ => DnK.of HDT hb_) (by omega)).mono ?_
  rintro e W3 ⟨A8, c8, xs8, hS8, rfl, H_⟩
  have hS8 : L = xs8 := hS8.symm
  subst hS8
  refine ⟨_, rfl, ?_⟩
  replace HS : St W (owns []) W3 [row A8 L.length c8 (ci .i64 L) 3 1, blk b1 [.pointer (some ⟨d, 0, none⟩)] 40] := HS.join (F := []) (G := [row A8 L.length c8 (ci .i64 L) 3 1]) H_
  clear H_
  refine ql (.slice A8 L.length c8) (by kernel_rfl) (by kernel_rfl) ?_
  refine wpList_nil ?_
  refine x_then ?_
  refine wp_ret ?_
  refine ret_ (.slice A8 L.length c8) (by kernel_rfl) ?_
  replace HS : St W (owns []) W3 [row A8 L.length c8 (ci .i64 L) 3 1] := St.tail (F := [blk b1 [.pointer (some ⟨d, 0, none⟩)] 40]) (HS.perm (perm_ [1, 0] (by kernel_rfl) rfl))
  exact ⟨A8, c8, rfl, HS⟩

theorem mlist (g : Nat) (n : Int) (L : List Int) (x : MxF) (W : World) (hP : (many (mxE 53 74 21 62 63 g n L x)).P W) (hx : x.ok n L) (h0 : 0 ≤ n) (hn : n ≤ 1048576) (hT : TabAt64 W) : Calls Tryd.prog 19 #[.pointer (some ⟨g, 0, none⟩)] W fun e W' => ∃ A' c', e = .returned (.slice A' L.length c') ∧ St W (owns []) W' [row A' L.length c' (ci .i64 L) 3 1] := by
  rcases x with ⟨q, c, A⟩ | ⟨d, c, A, ws⟩
  · obtain ⟨a, b, c1, d, e⟩ := few_P hP
    exact mlist_few g q c A n L W a b c1 d e hx.1 (by have := hx.2.2; omega) hT
  · obtain ⟨a, b, c1, d1, d2, e⟩ := mny_P hP
    exact mlist_mny g d c A ws n L W a b c1 d1 d2 e hx.1 hn h0 hT

set_option maxRecDepth 100000 in
set_option maxHeartbeats 1000000 in
theorem mall_nil (W : World) : Calls Tryd.prog 38 #[.pointer none] W fun e W' => ∃ b, e = .returned (.func (.func 53) #[] #[.pointer (some ⟨b, 0, none⟩)]) ∧ St W (owns []) W' [blk b [.pointer none] 50] := by
  have HS : St W (owns []) W [] := St.start W _
  refine calls_enter [.pointer none, undef, undef, undef, undef, undef, undef, undef, undef, undef, undef, undef, undef, undef, undef, undef, undef, undef] Tryd.func38 rfl (by kernel_rfl) ?_
  refine wp_seq ?_
  refine wp_region_lit ?_
  refine ql (.nilFunc) (by kernel_rfl) (by kernel_rfl) ?_
  refine wpList_nil ?_
  refine x_then ?_
  refine wp_seq ?_
  refine wp_seq ?_
  refine wp_region_lit ?_
  refine ql (.pointer none) (by kernel_rfl) (by kernel_rfl) ?_
  refine qc (f := 23) (args := #[.pointer none]) (by kernel_rfl) (R_call #[.pointer none] Tryd.func23 (by kernel_rfl) (by kernel_rfl) (by kernel_rfl)) ?_
  refine (mdense_nil _).mono ?_
  rintro e W1 ⟨rfl, H_⟩
  refine ⟨_, rfl, ?_⟩
  replace HS : St W (owns []) W1 [] := HS.join (F := []) (G := []) H_
  clear H_
  refine wpList_nil ?_
  refine x_then ?_
  refine wp_cond_false (by kernel_rfl) ?_
  refine wp_skip ?_
  refine x_then ?_
  refine wp_seq ?_
  refine wp_seq ?_
  refine wp_region_lit ?_
  refine ql (.pointer none) (by kernel_rfl) (by kernel_rfl) ?_
  refine ql (.bool true) (by kernel_rfl) (by kernel_rfl) ?_
  refine wpList_nil ?_
  refine x_then ?_
  refine wp_cond_true (by kernel_rfl) ?_
  refine wp_seq ?_
  refine wp_region_lit ?_
  refine qc (f := 43) (args := #[.pointer none]) (by kernel_rfl) (R_call #[.pointer none] Tryd.func43 (by kernel_rfl) (by kernel_rfl) (by kernel_rfl)) ?_
  refine (sall_nil _).mono ?_
  rintro e W3 ⟨b2, rfl, H_⟩
  refine ⟨_, rfl, ?_⟩
  replace HS : St W (owns []) W3 [blk b2 [.pointer none] 50] := HS.join (F := []) (G := [blk b2 [.pointer none] 50]) H_
  clear H_
  refine ql (.func (.func 53) #[] #[.pointer (some ⟨b2, 0, none⟩)]) (by kernel_rfl) (by kernel_rfl) ?_
  refine wpList_nil ?_
  refine x_then ?_
  refine wp_ret ?_
  refine x_thenR ?_
  refine ret_ (.func (.func 53) #[] #[.pointer (some ⟨b2, 0, none⟩)]) (by kernel_rfl) ?_
  exact ⟨_, rfl, HS⟩

set_option maxRecDepth 100000 in
set_option maxHeartbeats 1000000 in
theorem mlist_nil (W : World) : Calls Tryd.prog 19 #[.pointer none] W fun e W' => ∃ A' c', e = .returned (.slice A' 0 c') ∧ St W (owns []) W' [row A' 0 c' (ci .i64 []) 3 1] := by
  have HS : St W (owns []) W [] := St.start W _
  refine calls_enter [.pointer none, undef, undef, undef, undef, undef] Tryd.func19 rfl (by kernel_rfl) ?_
  refine wp_seq ?_
  refine wp_region_lit ?_
  refine ql (.slice none 0 0) (by kernel_rfl) (by kernel_rfl) ?_
  refine wpList_nil ?_
  refine x_then ?_
  refine wp_seq ?_
  refine wp_region_lit ?_
  refine ql (.pointer none) (by kernel_rfl) (by kernel_rfl) ?_
  refine qc (f := 38) (args := #[.pointer none]) (by kernel_rfl) (R_call #[.pointer none] Tryd.func38 (by kernel_rfl) (by kernel_rfl) (by kernel_rfl)) ?_
  refine (mall_nil _).mono ?_
  rintro e W2 ⟨b1, rfl, H_⟩
  refine ⟨_, rfl, ?_⟩
  replace HS : St W (owns []) W2 [blk b1 [.pointer none] 50] := HS.join (F := []) (G := [blk b1 [.pointer none] 50]) H_
  clear H_
  refine qc (f := 37) (args := #[.func (.func 53) #[] #[.pointer (some ⟨b1, 0, none⟩)]]) (by kernel_rfl) (R_call #[.func (.func 53) #[] #[.pointer (some ⟨b1, 0, none⟩)]] Tryd.func37 (by kernel_rfl) (by kernel_rfl) (by kernel_rfl)) ?_
  have HDT : DnN b1 _ := HS.cell (i := 0) (j := 0) rfl rfl
  refine (colS 53 #[.pointer (some ⟨b1, 0, none⟩)] _ (enters_of Tryd.func53 (by kernel_rfl) rfl) (sall_stops_nil b1 _ HDT 0) (fun h_ k_ => fun x_ => k_ (h_ x_)) (fun X Y hb_ => DnNK.of HDT hb_) (by omega)).mono ?_
  rintro e W3 ⟨A8, c8, xs8, hS8, rfl, H_⟩
  have hS8 : [] = xs8 := hS8.symm
  subst hS8
  refine ⟨_, rfl, ?_⟩
  replace HS : St W (owns []) W3 [row A8 0 c8 (ci .i64 ([])) 3 1, blk b1 [.pointer none] 50] := HS.join (F := []) (G := [row A8 0 c8 (ci .i64 ([])) 3 1]) H_
  clear H_
  refine ql (.slice A8 0 c8) (by kernel_rfl) (by kernel_rfl) ?_
  refine wpList_nil ?_
  refine x_then ?_
  refine wp_ret ?_
  refine ret_ (.slice A8 0 c8) (by kernel_rfl) ?_
  replace HS : St W (owns []) W3 [row A8 0 c8 (ci .i64 ([])) 3 1] := St.tail (F := [blk b1 [.pointer none] 50]) (HS.perm (perm_ [1, 0] (by kernel_rfl) rfl))
  exact ⟨A8, c8, rfl, HS⟩

set_option maxRecDepth 100000 in
set_option maxHeartbeats 1000000 in
theorem mfill_nil (a b : Int) (W : World) : Calls Tryd.prog 17 #[.pointer none, .int .i64 a, .int .i64 b] W fun e W' => e = .returned (.tuple #[]) ∧ St W (owns []) W' [] := by
  have HS : St W (owns []) W [] := St.start W _
  refine calls_enter [.pointer none, .int .i64 a, .int .i64 b, undef, undef, undef, undef, undef, undef, undef, undef, undef, undef, undef, undef, undef, undef, undef, undef, undef] Tryd.func17 rfl (by kernel_rfl) ?_
  refine wp_seq ?_
  refine wp_region_lit ?_
  refine ql (.int .i64 a) (by kernel_rfl) (by kernel_rfl) ?_
  refine ql (.int .i64 (max a (0 : Int))) (by kernel_rfl) (R_max (i := a) (j := 0) (by kernel_rfl) (by kernel_rfl)) ?_
  refine ql (.int .i64 (max a (0 : Int))) (by kernel_rfl) (by kernel_rfl) ?_
  refine wpList_nil ?_
  refine x_then ?_
  refine wp_block ?_
  refine wp_loop_ghost (fun kq a' w' => ∃ (J1 : Nat → Value) , a' = Fr [.pointer none, .int .i64 a, .int .i64 b, undef, undef, undef, .int .i64 (max a 0), .int .i64 a, .int .i64 (max a (0 : Int)), (J1 9), (J1 10), (J1 11), (J1 12), (J1 13), (J1 14), (J1 15), (J1 16), (J1 17), (J1 18), (J1 19)] ∧ kq = (0) ∧ St W (owns []) w' []) (0) ⟨(fun k_ : Nat => List.getD [.pointer none, .int .i64 a, .int .i64 b, undef, undef, undef, .int .i64 (max a (0 : Int)), .int .i64 a, .int .i64 (max a (0 : Int)), undef, undef, undef, undef, undef, undef, undef, undef, undef, undef, undef] k_ undef), congrArg Fr (by kernel_rfl), rfl, HS⟩ ?_
  clear HS
  intro kq2 a' W3 hrel
  obtain ⟨J1, rfl, hk, HS⟩ := hrel
  refine wp_seq ?_
  refine wp_seq ?_
  refine wp_region_lit ?_
  refine ql (.int .i64 (max a 0)) (by kernel_rfl) (by kernel_rfl) ?_
  refine ql (.int .i64 b) (by kernel_rfl) (by kernel_rfl) ?_
  refine ql (.pointer none) (by kernel_rfl) (by kernel_rfl) ?_
  refine qc (f := 21) (args := #[.pointer none]) (by kernel_rfl) (R_call #[.pointer none] Tryd.func21 (by kernel_rfl) (by kernel_rfl) (by kernel_rfl)) ?_
  refine (msize_nil _).mono ?_
  rintro e W4 ⟨rfl, H_⟩
  refine ⟨_, rfl, ?_⟩
  replace HS : St W (owns []) W4 [] := HS.join (F := []) (G := []) H_
  clear H_
  refine ql (.int .i64 (min b (0 : Int))) (by kernel_rfl) (R_min (i := b) (j := 0) (by kernel_rfl) (by kernel_rfl)) ?_
  refine ql (.bool false) (by kernel_rfl) (R_nbool (p := (max a 0) < (min b (0 : Int))) (by kernel_rfl) (by omega)) ?_
  refine wpList_nil ?_
  refine x_then ?_
  refine wp_cond_false (by kernel_rfl) ?_
  refine wp_exit ?_
  refine x_thenE ?_
  refine x_thenE ?_
  refine x_hit ?_
  refine end_ (.tuple #[]) (by kernel_rfl) ?_
  exact ⟨rfl, HS⟩

set_option maxRecDepth 100000 in
set_option maxHeartbeats 1000000 in
theorem lMixedSame (n : Int) (l : List Int) (Al : Option Addr) (cl : Nat) (W : World) (hra : Rd W Al (ci .i64 l)) (hT : TabAt64 W) : Calls Tryd.prog 4 #[.int .i64 n, .slice Al l.length cl] W fun e W' => e = .returned (.bool true) ∧ St W (owns []) W' [] := by
  have HS : St W (owns []) W [] := St.start W _
  refine calls_enter ((.int .i64 n) :: (.slice Al l.length cl) :: undef :: undef :: undef :: undef :: undef :: undef :: undef :: undef :: undef :: undef :: undef :: undef :: undef :: undef :: undef :: undef :: undef :: undef :: undef :: undef :: undef :: undef :: undef :: undef :: undef :: undef :: undef :: undef :: undef :: undef :: undef :: undef :: undef :: undef :: undef :: undef :: undef :: undef :: undef :: undef :: undef :: undef :: undef :: undef :: undef :: undef :: undef :: undef :: undef :: undef :: undef :: undef :: undef :: undef :: undef :: undef :: undef :: undef :: undef :: undef :: undef :: undef :: undef :: undef :: undef :: undef :: undef :: undef :: undef :: undef :: undef :: undef :: undef :: undef :: undef :: undef :: undef :: undef :: undef :: undef :: undef :: undef :: undef :: undef :: undef :: undef :: undef :: undef :: undef :: undef :: undef :: undef :: undef :: undef :: undef :: undef :: undef :: undef :: undef :: undef :: undef :: undef :: undef :: undef :: undef :: undef :: undef :: undef :: undef :: undef :: undef :: undef :: undef :: undef :: undef :: undef :: undef :: undef :: undef :: undef :: undef :: undef :: undef :: undef :: undef :: undef :: undef :: undef :: undef :: undef :: undef :: undef :: undef :: undef :: undef :: undef :: undef :: undef :: undef :: undef :: undef :: undef :: undef :: undef :: []) Tryd.func4 rfl (by kernel_rfl) ?_
  refine wp_seq ?_
  refine wp_region_lit ?_
  refine ql (.bool false) (by kernel_rfl) (by kernel_rfl) ?_
  refine wpList_nil ?_
  refine x_then ?_
  refine wp_seq ?_
  refine wp_seq ?_
  refine wp_region_lit ?_
  refine ql (.slice Al l.length cl) (by kernel_rfl) (by kernel_rfl) ?_
  refine ql (.int .i64 (l.length : Int)) (by kernel_rfl) (by kernel_rfl) ?_
  by_cases hc1 : (l.length : Int) > (40 : Int)
  · skip
    refine ql (.bool true) (by kernel_rfl) (R_bool (p := (l.length : Int) > (40 : Int)) (by kernel_rfl) (hc1)) ?_
    refine ql (.bool true) (by kernel_rfl) (by kernel_rfl) ?_
    refine qln (by kernel_rfl) ?_
    refine qln (by kernel_rfl) ?_
    refine ql (.bool true) (by kernel_rfl) (by kernel_rfl) ?_
    refine ql (.bool true) (by kernel_rfl) (by kernel_rfl) ?_
    refine qln (by kernel_rfl) ?_
    refine qln (by kernel_rfl) ?_
    refine ql (.bool true) (by kernel_rfl) (by kernel_rfl) ?_
    refine wpList_nil ?_
    refine x_then ?_
    refine wp_cond_true (by kernel_rfl) ?_
    refine wp_seq ?_
    refine wp_region_lit ?_
    refine qc (f := 5) (args := #[]) (by kernel_rfl) (R_call #[] Tryd.func5 (by kernel_rfl) (by kernel_rfl) (by kernel_rfl)) ?_
    refine (mawake _).mono ?_
    rintro e W2 ⟨rfl, H_⟩
    refine ⟨_, rfl, ?_⟩
    replace HS : St W (owns []) W2 [] := HS.join (F := []) (G := []) H_
    clear H_
    refine ql (.bool true) (by kernel_rfl) (by kernel_rfl) ?_
    refine wpList_nil ?_
    refine x_then ?_
    refine wp_ret ?_
    refine x_thenR ?_
    refine ret_ (.bool true) (by kernel_rfl) ?_
    exact ⟨rfl, HS⟩
  · skip
    refine ql (.bool false) (by kernel_rfl) (R_nbool (p := (l.length : Int) > (40 : Int)) (by kernel_rfl) (hc1)) ?_
    refine ql (.bool false) (by kernel_rfl) (by kernel_rfl) ?_
    refine ql (.int .i64 n) (by kernel_rfl) (by kernel_rfl) ?_
    by_cases hc3 : n < (0 : Int)
    · skip
      refine ql (.bool true) (by kernel_rfl) (R_bool (p := n < (0 : Int)) (by kernel_rfl) (hc3)) ?_
      refine ql (.bool true) (by kernel_rfl) (by kernel_rfl) ?_
      refine ql (.bool true) (by kernel_rfl) (by kernel_rfl) ?_
      refine qln (by kernel_rfl) ?_
      refine qln (by kernel_rfl) ?_
      refine ql (.bool true) (by kernel_rfl) (by kernel_rfl) ?_
      refine wpList_nil ?_
      refine x_then ?_
      refine wp_cond_true (by kernel_rfl) ?_
      refine wp_seq ?_
      refine wp_region_lit ?_
      refine qc (f := 5) (args := #[]) (by kernel_rfl) (R_call #[] Tryd.func5 (by kernel_rfl) (by kernel_rfl) (by kernel_rfl)) ?_
      refine (mawake _).mono ?_
      rintro e W4 ⟨rfl, H_⟩
      refine ⟨_, rfl, ?_⟩
      replace HS : St W (owns []) W4 [] := HS.join (F := []) (G := []) H_
      clear H_
      refine ql (.bool true) (by kernel_rfl) (by kernel_rfl) ?_
      refine wpList_nil ?_
      refine x_then ?_
      refine wp_ret ?_
      refine x_thenR ?_
      refine ret_ (.bool true) (by kernel_rfl) ?_
      exact ⟨rfl, HS⟩
    · skip
      refine ql (.bool false) (by kernel_rfl) (R_nbool (p := n < (0 : Int)) (by kernel_rfl) (hc3)) ?_
      refine ql (.bool false) (by kernel_rfl) (by kernel_rfl) ?_
      refine ql (.bool false) (by kernel_rfl) (by kernel_rfl) ?_
      refine ql (.int .i64 n) (by kernel_rfl) (by kernel_rfl) ?_
      by_cases hc5 : n > (200 : Int)
      · skip
        refine ql (.bool true) (by kernel_rfl) (R_bool (p := n > (200 : Int)) (by kernel_rfl) (hc5)) ?_
        refine ql (.bool true) (by kernel_rfl) (by kernel_rfl) ?_
        refine wpList_nil ?_
        refine x_then ?_
        refine wp_cond_true (by kernel_rfl) ?_
        refine wp_seq ?_
        refine wp_region_lit ?_
        refine qc (f := 5) (args := #[]) (by kernel_rfl) (R_call #[] Tryd.func5 (by kernel_rfl) (by kernel_rfl) (by kernel_rfl)) ?_
        refine (mawake _).mono ?_
        rintro e W6 ⟨rfl, H_⟩
        refine ⟨_, rfl, ?_⟩
        replace HS : St W (owns []) W6 [] := HS.join (F := []) (G := []) H_
        clear H_
        refine ql (.bool true) (by kernel_rfl) (by kernel_rfl) ?_
        refine wpList_nil ?_
        refine x_then ?_
        refine wp_ret ?_
        refine x_thenR ?_
        refine ret_ (.bool true) (by kernel_rfl) ?_
        exact ⟨rfl, HS⟩
      · skip
        refine ql (.bool false) (by kernel_rfl) (R_nbool (p := n > (200 : Int)) (by kernel_rfl) (hc5)) ?_
        refine ql (.bool false) (by kernel_rfl) (by kernel_rfl) ?_
        refine wpList_nil ?_
        refine x_then ?_
        refine wp_cond_false (by kernel_rfl) ?_
        refine wp_skip ?_
        refine x_then ?_
        refine wp_seq ?_
        refine wp_region_lit ?_
        refine ql (.int .i64 n) (by kernel_rfl) (by kernel_rfl) ?_
        refine qc (f := 6) (args := #[.int .i64 n]) (by kernel_rfl) (R_call #[.int .i64 n] Tryd.func6 (by kernel_rfl) (by kernel_rfl) (by kernel_rfl)) ?_
        refine (mnew_ok n _ (by omega) (by omega)).mono ?_
        rintro e W11 ⟨g7, x8, rfl, H_, hok9, hb10⟩
        refine ⟨_, rfl, ?_⟩
        replace HS : St W (owns []) W11 [many (mxE 53 74 21 62 63 g7 n ([]) x8)] := HS.join (F := []) (G := [many (mxE 53 74 21 62 63 g7 n ([]) x8)]) H_
        clear H_
        refine ql (.tuple #[.pointer (some ⟨g7, 0, none⟩), .int .i64 0]) (by kernel_rfl) (by kernel_rfl) ?_
        refine ql (.pointer (some ⟨g7, 0, none⟩)) (by kernel_rfl) (by kernel_rfl) ?_
        refine ql (.int .i64 0) (by kernel_rfl) (by kernel_rfl) ?_
        refine ql (.pointer (some ⟨g7, 0, none⟩)) (by kernel_rfl) (by kernel_rfl) ?_
        refine ql (.int .i64 0) (by kernel_rfl) (by kernel_rfl) ?_
        refine wpList_nil ?_
        refine x_then ?_
        refine wp_seq ?_
        refine wp_region_lit ?_
        refine ql (.int .i64 n) (by kernel_rfl) (by kernel_rfl) ?_
        refine qc (f := 10) (args := #[.int .i64 n]) (by kernel_rfl) (R_call #[.int .i64 n] Tryd.func10 (by kernel_rfl) (by kernel_rfl) (by kernel_rfl)) ?_
        refine (dnew_ok n _ (by omega) (by omega)).mono ?_
        rintro e W17 ⟨g12, a13, c14, ws15, rfl, H_, hR16⟩
        refine ⟨_, rfl, ?_⟩
        replace HS : St W (owns []) W17 [blk g12 [.slice (some ⟨a13, 0, none⟩) ws15.length c14, .int .i64 n] 62, row (some ⟨a13, 0, none⟩) ws15.length c14 (ci .u64 ws15) 63 1, many (mxE 53 74 21 62 63 g7 n ([]) x8)] := HS.join (F := []) (G := [blk g12 [.slice (some ⟨a13, 0, none⟩) ws15.length c14, .int .i64 n] 62, row (some ⟨a13, 0, none⟩) ws15.length c14 (ci .u64 ws15) 63 1]) H_
        clear H_
        refine ql (.tuple #[.pointer (some ⟨g12, 0, none⟩), .int .i64 0]) (by kernel_rfl) (by kernel_rfl) ?_
        refine ql (.pointer (some ⟨g12, 0, none⟩)) (by kernel_rfl) (by kernel_rfl) ?_
        refine ql (.int .i64 0) (by kernel_rfl) (by kernel_rfl) ?_
        refine ql (.pointer (some ⟨g12, 0, none⟩)) (by kernel_rfl) (by kernel_rfl) ?_
        refine ql (.int .i64 0) (by kernel_rfl) (by kernel_rfl) ?_
        refine wpList_nil ?_
        refine x_then ?_
        refine wp_seq ?_
        refine wp_seq ?_
        refine wp_region_lit ?_
        refine ql (.pointer (some ⟨g7, 0, none⟩)) (by kernel_rfl) (by kernel_rfl) ?_
        refine ql (.bool false) (by kernel_rfl) (by kernel_rfl) ?_
        refine ql (.bool false) (by kernel_rfl) (by kernel_rfl) ?_
        refine ql (.pointer (some ⟨g12, 0, none⟩)) (by kernel_rfl) (by kernel_rfl) ?_
        refine ql (.bool false) (by kernel_rfl) (by kernel_rfl) ?_
        refine ql (.bool false) (by kernel_rfl) (by kernel_rfl) ?_
        refine ql (.bool false) (by kernel_rfl) (by kernel_rfl) ?_
        refine ql (.int .i64 0) (by kernel_rfl) (by kernel_rfl) ?_
        refine ql (.bool false) (by kernel_rfl) (R_beq (b := ((0 : Int) != 0)) (by kernel_rfl) (by decide)) ?_
        refine ql (.bool false) (by kernel_rfl) (by kernel_rfl) ?_
        refine ql (.bool false) (by kernel_rfl) (by kernel_rfl) ?_
        refine ql (.int .i64 0) (by kernel_rfl) (by kernel_rfl) ?_
        refine ql (.bool false) (by kernel_rfl) (R_beq (b := ((0 : Int) != 0)) (by kernel_rfl) (by decide)) ?_
        refine ql (.bool false) (by kernel_rfl) (by kernel_rfl) ?_
        refine wpList_nil ?_
        refine x_then ?_
        refine wp_cond_false (by kernel_rfl) ?_
        refine wp_skip ?_
        refine x_then ?_
        refine wp_seq ?_
        refine wp_seq ?_
        refine wp_region_lit ?_
        refine ql (.int .i64 0) (by kernel_rfl) (by kernel_rfl) ?_
        refine wpList_nil ?_
        refine x_then ?_
        refine wp_block ?_
        replace HS : St W (owns []) W17 [many (mxE 53 74 21 62 63 g7 n ([]) x8), blk g12 [.slice (some ⟨a13, 0, none⟩) ws15.length c14, .int .i64 n] 62, row (some ⟨a13, 0, none⟩) ws15.length c14 (ci .u64 ws15) 63 1] := HS.perm (perm_ [2, 0, 1] (by kernel_rfl) rfl)
        refine wp_loop_ghost (fun kq a' w' => ∃ (J18 : Nat → Value) (k : Int) (L : List Int) (x : MxF) (ws : List Int) , a' = Fr ((.int .i64 n) :: (.slice Al l.length cl) :: undef :: undef :: ((J18 4)) :: (.pointer (some ⟨g7, 0, none⟩)) :: (.int .i64 0) :: (.pointer (some ⟨g12, 0, none⟩)) :: (.int .i64 0) :: (.int .i64 k) :: undef :: (.slice Al l.length cl) :: (.int .i64 (l.length : Int)) :: (.bool false) :: (.bool false) :: (.int .i64 n) :: (.bool false) :: (.bool false) :: (.bool false) :: (.int .i64 n) :: (.bool false) :: (.bool false) :: undef :: (.tuple #[.pointer (some ⟨g7, 0, none⟩), .int .i64 0]) :: (.int .i64 n) :: (.tuple #[.pointer (some ⟨g7, 0, none⟩), .int .i64 0]) :: (.pointer (some ⟨g7, 0, none⟩)) :: (.int .i64 0) :: (.tuple #[.pointer (some ⟨g12, 0, none⟩), .int .i64 0]) :: (.int .i64 n) :: (.tuple #[.pointer (some ⟨g12, 0, none⟩), .int .i64 0]) :: (.pointer (some ⟨g12, 0, none⟩)) :: (.int .i64 0) :: (.pointer (some ⟨g7, 0, none⟩)) :: (.bool false) :: (.bool false) :: (.pointer (some ⟨g12, 0, none⟩)) :: (.bool false) :: (.bool false) :: (.bool false) :: (.int .i64 0) :: (.bool false) :: (.bool false) :: (.bool false) :: (.int .i64 0) :: (.bool false) :: (.bool false) :: ((J18 47)) :: ((J18 48)) :: ((J18 49)) :: ((J18 50)) :: ((J18 51)) :: ((J18 52)) :: ((J18 53)) :: ((J18 54)) :: ((J18 55)) :: ((J18 56)) :: ((J18 57)) :: ((J18 58)) :: ((J18 59)) :: ((J18 60)) :: ((J18 61)) :: ((J18 62)) :: ((J18 63)) :: ((J18 64)) :: ((J18 65)) :: ((J18 66)) :: ((J18 67)) :: ((J18 68)) :: ((J18 69)) :: ((J18 70)) :: ((J18 71)) :: ((J18 72)) :: ((J18 73)) :: ((J18 74)) :: ((J18 75)) :: ((J18 76)) :: ((J18 77)) :: ((J18 78)) :: ((J18 79)) :: ((J18 80)) :: ((J18 81)) :: ((J18 82)) :: ((J18 83)) :: ((J18 84)) :: ((J18 85)) :: ((J18 86)) :: ((J18 87)) :: undef :: undef :: undef :: undef :: undef :: undef :: undef :: undef :: undef :: undef :: undef :: undef :: undef :: undef :: undef :: undef :: undef :: undef :: undef :: undef :: undef :: undef :: undef :: undef :: undef :: undef :: undef :: undef :: undef :: undef :: undef :: undef :: undef :: undef :: undef :: undef :: undef :: undef :: undef :: undef :: undef :: undef :: undef :: undef :: undef :: undef :: undef :: undef :: undef :: undef :: undef :: undef :: undef :: undef :: undef :: undef :: undef :: undef :: []) ∧ kq = (l.length - (k).toNat) ∧ (0 ≤ k) ∧ (k ≤ l.length) ∧ (x.ok n L) ∧ (Rep ws n L) ∧ St W (owns []) w' [many (mxE 53 74 21 62 63 g7 n L x), blk g12 [.slice (some ⟨a13, 0, none⟩) ws.length c14, .int .i64 n] 62, row (some ⟨a13, 0, none⟩) ws.length c14 (ci .u64 ws) 63 1]) (l.length - ((0 : Int)).toNat) ⟨(fun k_ : Nat => List.getD ((.int .i64 n) :: (.slice Al l.length cl) :: undef :: undef :: (.bool false) :: (.pointer (some ⟨g7, 0, none⟩)) :: (.int .i64 0) :: (.pointer (some ⟨g12, 0, none⟩)) :: (.int .i64 0) :: (.int .i64 0) :: undef :: (.slice Al l.length cl) :: (.int .i64 (l.length : Int)) :: (.bool false) :: (.bool false) :: (.int .i64 n) :: (.bool false) :: (.bool false) :: (.bool false) :: (.int .i64 n) :: (.bool false) :: (.bool false) :: undef :: (.tuple #[.pointer (some ⟨g7, 0, none⟩), .int .i64 0]) :: (.int .i64 n) :: (.tuple #[.pointer (some ⟨g7, 0, none⟩), .int .i64 0]) :: (.pointer (some ⟨g7, 0, none⟩)) :: (.int .i64 0) :: (.tuple #[.pointer (some ⟨g12, 0, none⟩), .int .i64 0]) :: (.int .i64 n) :: (.tuple #[.pointer (some ⟨g12, 0, none⟩), .int .i64 0]) :: (.pointer (some ⟨g12, 0, none⟩)) :: (.int .i64 0) :: (.pointer (some ⟨g7, 0, none⟩)) :: (.bool false) :: (.bool false) :: (.pointer (some ⟨g12, 0, none⟩)) :: (.bool false) :: (.bool false) :: (.bool false) :: (.int .i64 0) :: (.bool false) :: (.bool false) :: (.bool false) :: (.int .i64 0) :: (.bool false) :: (.bool false) :: undef :: undef :: undef :: undef :: undef :: undef :: undef :: undef :: undef :: undef :: undef :: undef :: undef :: undef :: undef :: undef :: undef :: undef :: undef :: undef :: undef :: undef :: undef :: undef :: undef :: undef :: undef :: undef :: undef :: undef :: undef :: undef :: undef :: undef :: undef :: undef :: undef :: undef :: undef :: undef :: undef :: undef :: undef :: undef :: undef :: undef :: undef :: undef :: undef :: undef :: undef :: undef :: undef :: undef :: undef :: undef :: undef :: undef :: undef :: undef :: undef :: undef :: undef :: undef :: undef :: undef :: undef :: undef :: undef :: undef :: undef :: undef :: undef :: undef :: undef :: undef :: undef :: undef :: undef :: undef :: undef :: undef :: undef :: undef :: undef :: undef :: undef :: undef :: undef :: undef :: undef :: undef :: undef :: undef :: undef :: undef :: undef :: undef :: undef :: []) k_ undef), (0 : Int), [], x8, ws15, congrArg Fr (by kernel_rfl), rfl, by omega, by omega, hok9, hR16, HS⟩ ?_
        clear HS
        intro kq19 a' W20 hrel
        obtain ⟨J18, k, L, x, ws, rfl, hk, k0, k1, hok, hR, HS⟩ := hrel
        have hlw := hok.len (by omega)
        have hal := addL_len n (rdI l k) L
        refine wp_seq ?_
        refine wp_seq ?_
        refine wp_region_lit ?_
        refine ql (.int .i64 k) (by kernel_rfl) (by kernel_rfl) ?_
        refine ql (.slice Al l.length cl) (by kernel_rfl) (by kernel_rfl) ?_
        refine ql (.int .i64 (l.length : Int)) (by kernel_rfl) (by kernel_rfl) ?_
        by_cases hc21 : k < (l.length : Int)
        · skip
          refine ql (.bool true) (by kernel_rfl) (R_bool (p := k < (l.length : Int)) (by kernel_rfl) (hc21)) ?_
          refine wpList_nil ?_
          refine x_then ?_
          refine wp_cond_true (by kernel_rfl) ?_
          refine wp_skip ?_
          refine x_then ?_
          refine wp_seq ?_
          refine wp_block ?_
          refine wp_seq ?_
          refine t_start HS (fun k_ => (many (mxE 53 74 21 62 63 g7 n L x)).own k_ ∨ (blk g12 [.slice (some ⟨a13, 0, none⟩) ws.length c14, .int .i64 n] 62).own k_ ∨ (row (some ⟨a13, 0, none⟩) ws.length c14 (ci .u64 ws) 63 1).own k_) 35 (by kernel_rfl) rfl ?_
          intro W22 H_ HD_
          clear HD_
          replace HS : St W (owns []) W22 [many (mxE 53 74 21 62 63 g7 n L x), blk g12 [.slice (some ⟨a13, 0, none⟩) ws.length c14, .int .i64 n] 62, row (some ⟨a13, 0, none⟩) ws.length c14 (ci .u64 ws) 63 1] := H_
          clear H_
          have HV := HS
          have HK := Kpt.refl (fun k_ => (many (mxE 53 74 21 62 63 g7 n L x)).own k_ ∨ (blk g12 [.slice (some ⟨a13, 0, none⟩) ws.length c14, .int .i64 n] 62).own k_ ∨ (row (some ⟨a13, 0, none⟩) ws.length c14 (ci .u64 ws) 63 1).own k_) W22
          refine t_q (n := 34) 0 (.pointer (some ⟨g7, 0, none⟩)) rfl (by kernel_rfl) (by kernel_rfl) (fun _ _ _ h => h) (fun w' hk => (by kernel_rfl)) HK ?_
          refine t_q (n := 33) 1 (.slice Al l.length cl) rfl (by kernel_rfl) (by kernel_rfl) (fun _ _ _ h => h) (fun w' hk => (by kernel_rfl)) HK ?_
          refine t_q (n := 32) 2 (.int .i64 k) rfl (by kernel_rfl) (by kernel_rfl) (fun _ _ _ h => h) (fun w' hk => (by kernel_rfl)) HK ?_
          obtain ⟨ad23, rfl⟩ := Rd.isSome_ hra (by rw [ci_len]; omega)
          refine t_q (n := 31) 3 (.pointer (some (ad23.add k.toNat))) rfl (by kernel_rfl) (by kernel_rfl) (fun _ _ _ h => h) (fun w' hk => (R_indexA1 (k := .i64) (p := ad23) (n := l.length) (c := cl) (i := k) (by kernel_rfl) (by kernel_rfl) Tryd.underlying28 (by kernel_rfl) (by omega) (by omega))) HK ?_
          refine t_q (n := 30) 4 (.int .i64 (rdI l k)) rfl (by kernel_rfl) (by kernel_rfl) (fun _ _ _ h => h) (fun w' hk => (R_load (p := ad23.add k.toNat) (by kernel_rfl) (by kernel_rfl) (by kernel_rfl) (hk.cellN (fun h_ => h_.elim (HV.oldSep (i := 0) rfl (hra.at_ (ci_rd (i := k) (by omega) (by omega)))) (fun h_ => h_.elim (HV.oldSep (i := 1) rfl (hra.at_ (ci_rd (i := k) (by omega) (by omega)))) (HV.oldSep (i := 2) rfl (hra.at_ (ci_rd (i := k) (by omega) (by omega)))))) (HV.old0 (hra.at_ (ci_rd (i := k) (by omega) (by omega))))))) HK ?_
          refine t_q (n := 29) 6 (.pointer (some ⟨g12, 0, none⟩)) rfl (by kernel_rfl) (by kernel_rfl) (fun _ _ _ h => h) (fun w' hk => (by kernel_rfl)) HK ?_
          refine t_q (n := 28) 7 (.slice (some ad23) l.length cl) rfl (by kernel_rfl) (by kernel_rfl) (fun _ _ _ h => h) (fun w' hk => (by kernel_rfl)) HK ?_
          refine t_q (n := 27) 8 (.int .i64 k) rfl (by kernel_rfl) (by kernel_rfl) (fun _ _ _ h => h) (fun w' hk => (by kernel_rfl)) HK ?_
          refine t_q (n := 26) 9 (.pointer (some (ad23.add k.toNat))) rfl (by kernel_rfl) (by kernel_rfl) (fun _ _ _ h => h) (fun w' hk => (R_indexA1 (k := .i64) (p := ad23) (n := l.length) (c := cl) (i := k) (by kernel_rfl) (by kernel_rfl) Tryd.underlying28 (by kernel_rfl) (by omega) (by omega))) HK ?_
          refine t_q (n := 25) 10 (.int .i64 (rdI l k)) rfl (by kernel_rfl) (by kernel_rfl) (fun _ _ _ h => h) (fun w' hk => (R_load (p := ad23.add k.toNat) (by kernel_rfl) (by kernel_rfl) (by kernel_rfl) (hk.cellN (fun h_ => h_.elim (HV.oldSep (i := 0) rfl (hra.at_ (ci_rd (i := k) (by omega) (by omega)))) (fun h_ => h_.elim (HV.oldSep (i := 1) rfl (hra.at_ (ci_rd (i := k) (by omega) (by omega)))) (HV.oldSep (i := 2) rfl (hra.at_ (ci_rd (i := k) (by omega) (by omega)))))) (HV.old0 (hra.at_ (ci_rd (i := k) (by omega) (by omega))))))) HK ?_
          refine t_c (n := 24) 5 (f := 11) (args := #[.pointer (some ⟨g7, 0, none⟩), .int .i64 (rdI l k)]) rfl (by kernel_rfl) (by kernel_rfl) (R_call #[.pointer (some ⟨g7, 0, none⟩), .int .i64 (rdI l k)] Tryd.func11 (by kernel_rfl) (by kernel_rfl) (by kernel_rfl)) ?_
          refine (madd g7 n L x (rdI l k) _ _ (St.focus (F := [many (mxE 53 74 21 62 63 g7 n L x)]) HS) hok (by omega) (by omega)).mono ?_
          rintro e W27 ⟨x24, rfl, H_, hok25, hb26⟩
          have hkf_ : ∀ k_, owns [many (mxE 53 74 21 62 63 g7 n L x)] k_ → (many (mxE 53 74 21 62 63 g7 n L x)).own k_ ∨ (blk g12 [.slice (some ⟨a13, 0, none⟩) ws.length c14, .int .i64 n] 62).own k_ ∨ (row (some ⟨a13, 0, none⟩) ws.length c14 (ci .u64 ws) 63 1).own k_ := by
            intro k_ h_; obtain ⟨e_, he_, ho_⟩ := h_; simp only [List.mem_cons, List.not_mem_nil, or_false] at he_; rcases he_ with rfl <;> first | exact (.inl ho_) | exact (.inr (.inl ho_)) | exact (.inr (.inr ho_))
          refine ⟨_, rfl, HK.trans H_.kept (fun _ h_ => .inl (hkf_ _ h_)), ?_⟩
          replace HK := HK.trans H_.kept (fun _ h_ => .inl (hkf_ _ h_))
          replace HS : St W (owns []) W27 [many (mxE 53 74 21 62 63 g7 n (addL n L (rdI l k)) x24), blk g12 [.slice (some ⟨a13, 0, none⟩) ws.length c14, .int .i64 n] 62, row (some ⟨a13, 0, none⟩) ws.length c14 (ci .u64 ws) 63 1] := HS.join (F := [many (mxE 53 74 21 62 63 g7 n L x)]) (G := [many (mxE 53 74 21 62 63 g7 n (addL n L (rdI l k)) x24)]) H_
          clear H_
          refine t_c (n := 23) 11 (f := 12) (args := #[.pointer (some ⟨g12, 0, none⟩), .int .i64 (rdI l k)]) rfl (by kernel_rfl) (by kernel_rfl) (R_call #[.pointer (some ⟨g12, 0, none⟩), .int .i64 (rdI l k)] Tryd.func12 (by kernel_rfl) (by kernel_rfl) (by kernel_rfl)) ?_
          replace HS : St W (owns []) W27 [blk g12 [.slice (some ⟨a13, 0, none⟩) ws.length c14, .int .i64 n] 62, row (some ⟨a13, 0, none⟩) ws.length c14 (ci .u64 ws) 63 1, many (mxE 53 74 21 62 63 g7 n (addL n L (rdI l k)) x24)] := HS.perm (perm_ [1, 2, 0] (by kernel_rfl) rfl)
          refine (dadd g12 c14 (some ⟨a13, 0, none⟩) ws n L (rdI l k) _ _ (St.focus (F := [blk g12 [.slice (some ⟨a13, 0, none⟩) ws.length c14, .int .i64 n] 62, row (some ⟨a13, 0, none⟩) ws.length c14 (ci .u64 ws) 63 1]) HS) hR (by omega)).mono ?_
          rintro e W30 ⟨ws28, rfl, H_, hR29⟩
          have hkf_ : ∀ k_, owns [blk g12 [.slice (some ⟨a13, 0, none⟩) ws.length c14, .int .i64 n] 62, row (some ⟨a13, 0, none⟩) ws.length c14 (ci .u64 ws) 63 1] k_ → (many (mxE 53 74 21 62 63 g7 n L x)).own k_ ∨ (blk g12 [.slice (some ⟨a13, 0, none⟩) ws.length c14, .int .i64 n] 62).own k_ ∨ (row (some ⟨a13, 0, none⟩) ws.length c14 (ci .u64 ws) 63 1).own k_ := by
            intro k_ h_; obtain ⟨e_, he_, ho_⟩ := h_; simp only [List.mem_cons, List.not_mem_nil, or_false] at he_; rcases he_ with rfl | rfl <;> first | exact (.inl ho_) | exact (.inr (.inl ho_)) | exact (.inr (.inr ho_))
          refine ⟨_, rfl, HK.trans H_.kept (fun _ h_ => .inl (hkf_ _ h_)), ?_⟩
          replace HK := HK.trans H_.kept (fun _ h_ => .inl (hkf_ _ h_))
          replace HS : St W (owns []) W30 [blk g12 [.slice (some ⟨a13, 0, none⟩) ws28.length c14, .int .i64 n] 62, row (some ⟨a13, 0, none⟩) ws28.length c14 (ci .u64 ws28) 63 1, many (mxE 53 74 21 62 63 g7 n (addL n L (rdI l k)) x24)] := HS.join (F := [blk g12 [.slice (some ⟨a13, 0, none⟩) ws.length c14, .int .i64 n] 62, row (some ⟨a13, 0, none⟩) ws.length c14 (ci .u64 ws) 63 1]) (G := [blk g12 [.slice (some ⟨a13, 0, none⟩) ws28.length c14, .int .i64 n] 62, row (some ⟨a13, 0, none⟩) ws28.length c14 (ci .u64 ws28) 63 1]) H_
          clear H_
          refine t_q (n := 22) 12 (.bool false) rfl (by kernel_rfl) (by kernel_rfl) (fun _ _ _ h => h) (fun w' hk => (R_beq (b := ((addB n L (rdI l k)) != (addB n L (rdI l k)))) (by kernel_rfl) (bne_same _))) HK ?_
          refine t_q (n := 21) 13 (.bool false) rfl (by kernel_rfl) (by kernel_rfl) (fun _ _ _ h => h) (fun w' hk => (by kernel_rfl)) HK ?_
          refine t_q (n := 20) 14 (.pointer (some ⟨g7, 0, none⟩)) rfl (by kernel_rfl) (by kernel_rfl) (fun _ _ _ h => h) (fun w' hk => (by kernel_rfl)) HK ?_
          refine t_q (n := 19) 16 (.pointer (some ⟨g12, 0, none⟩)) rfl (by kernel_rfl) (by kernel_rfl) (fun _ _ _ h => h) (fun w' hk => (by kernel_rfl)) HK ?_
          refine t_c (n := 18) 15 (f := 13) (args := #[.pointer (some ⟨g7, 0, none⟩)]) rfl (by kernel_rfl) (by kernel_rfl) (R_call #[.pointer (some ⟨g7, 0, none⟩)] Tryd.func13 (by kernel_rfl) (by kernel_rfl) (by kernel_rfl)) ?_
          refine (mlen g7 n (addL n L (rdI l k)) x24 _ (HS.hasP (i := 2) rfl) hok25 (by omega) (by omega)).mono ?_
          rintro e W31 ⟨rfl, H_⟩
          refine ⟨_, rfl, HK.tr H_.kept.nil, ?_⟩
          replace HK := HK.tr H_.kept.nil
          replace HS : St W (owns []) W31 [blk g12 [.slice (some ⟨a13, 0, none⟩) ws28.length c14, .int .i64 n] 62, row (some ⟨a13, 0, none⟩) ws28.length c14 (ci .u64 ws28) 63 1, many (mxE 53 74 21 62 63 g7 n (addL n L (rdI l k)) x24)] := HS.join (F := []) (G := []) H_
          clear H_
          refine t_c (n := 17) 17 (f := 14) (args := #[.pointer (some ⟨g12, 0, none⟩)]) rfl (by kernel_rfl) (by kernel_rfl) (R_call #[.pointer (some ⟨g12, 0, none⟩)] Tryd.func14 (by kernel_rfl) (by kernel_rfl) (by kernel_rfl)) ?_
          refine (dcount g12 c14 (some ⟨a13, 0, none⟩) ws28 n (addL n L (rdI l k)) _ (HS.cell (i := 0) (j := 0) rfl rfl) (HS.cell (i := 0) (j := 1) rfl rfl) (Rd.row HS (i := 1) rfl) hR29 (by omega)).mono ?_
          rintro e W32 ⟨rfl, H_⟩
          refine ⟨_, rfl, HK.tr H_.kept.nil, ?_⟩
          replace HK := HK.tr H_.kept.nil
          replace HS : St W (owns []) W32 [blk g12 [.slice (some ⟨a13, 0, none⟩) ws28.length c14, .int .i64 n] 62, row (some ⟨a13, 0, none⟩) ws28.length c14 (ci .u64 ws28) 63 1, many (mxE 53 74 21 62 63 g7 n (addL n L (rdI l k)) x24)] := HS.join (F := []) (G := []) H_
          clear H_
          refine t_q (n := 16) 18 (.bool false) rfl (by kernel_rfl) (by kernel_rfl) (fun _ _ _ h => h) (fun w' hk => (R_beq (b := (((addL n L (rdI l k)).length : Int) != ((addL n L (rdI l k)).length : Int))) (by kernel_rfl) (bne_f (by omega)))) HK ?_
          refine t_q (n := 15) 19 (.bool false) rfl (by kernel_rfl) (by kernel_rfl) (fun _ _ _ h => h) (fun w' hk => (by kernel_rfl)) HK ?_
          refine t_q (n := 14) 20 (.bool false) rfl (by kernel_rfl) (by kernel_rfl) (fun _ _ _ h => h) (fun w' hk => (by kernel_rfl)) HK ?_
          refine t_q (n := 13) 21 (.pointer (some ⟨g7, 0, none⟩)) rfl (by kernel_rfl) (by kernel_rfl) (fun _ _ _ h => h) (fun w' hk => (by kernel_rfl)) HK ?_
          refine t_q (n := 12) 22 (.slice (some ad23) l.length cl) rfl (by kernel_rfl) (by kernel_rfl) (fun _ _ _ h => h) (fun w' hk => (by kernel_rfl)) HK ?_
          refine t_q (n := 11) 23 (.int .i64 k) rfl (by kernel_rfl) (by kernel_rfl) (fun _ _ _ h => h) (fun w' hk => (by kernel_rfl)) HK ?_
          refine t_q (n := 10) 24 (.pointer (some (ad23.add k.toNat))) rfl (by kernel_rfl) (by kernel_rfl) (fun _ _ _ h => h) (fun w' hk => (R_indexA1 (k := .i64) (p := ad23) (n := l.length) (c := cl) (i := k) (by kernel_rfl) (by kernel_rfl) Tryd.underlying28 (by kernel_rfl) (by omega) (by omega))) HK ?_
          refine t_q (n := 9) 25 (.int .i64 (rdI l k)) rfl (by kernel_rfl) (by kernel_rfl) (fun _ _ _ h => h) (fun w' hk => (R_load (p := ad23.add k.toNat) (by kernel_rfl) (by kernel_rfl) (by kernel_rfl) (hk.cellN (fun h_ => h_.elim (HV.oldSep (i := 0) rfl (hra.at_ (ci_rd (i := k) (by omega) (by omega)))) (fun h_ => h_.elim (HV.oldSep (i := 1) rfl (hra.at_ (ci_rd (i := k) (by omega) (by omega)))) (HV.oldSep (i := 2) rfl (hra.at_ (ci_rd (i := k) (by omega) (by omega)))))) (HV.old0 (hra.at_ (ci_rd (i := k) (by omega) (by omega))))))) HK ?_
          refine t_q (n := 8) 27 (.pointer (some ⟨g12, 0, none⟩)) rfl (by kernel_rfl) (by kernel_rfl) (fun _ _ _ h => h) (fun w' hk => (by kernel_rfl)) HK ?_
          refine t_q (n := 7) 28 (.slice (some ad23) l.length cl) rfl (by kernel_rfl) (by kernel_rfl) (fun _ _ _ h => h) (fun w' hk => (by kernel_rfl)) HK ?_
          refine t_q (n := 6) 29 (.int .i64 k) rfl (by kernel_rfl) (by kernel_rfl) (fun _ _ _ h => h) (fun w' hk => (by kernel_rfl)) HK ?_
          refine t_q (n := 5) 30 (.pointer (some (ad23.add k.toNat))) rfl (by kernel_rfl) (by kernel_rfl) (fun _ _ _ h => h) (fun w' hk => (R_indexA1 (k := .i64) (p := ad23) (n := l.length) (c := cl) (i := k) (by kernel_rfl) (by kernel_rfl) Tryd.underlying28 (by kernel_rfl) (by omega) (by omega))) HK ?_
          refine t_q (n := 4) 31 (.int .i64 (rdI l k)) rfl (by kernel_rfl) (by kernel_rfl) (fun _ _ _ h => h) (fun w' hk => (R_load (p := ad23.add k.toNat) (by kernel_rfl) (by kernel_rfl) (by kernel_rfl) (hk.cellN (fun h_ => h_.elim (HV.oldSep (i := 0) rfl (hra.at_ (ci_rd (i := k) (by omega) (by omega)))) (fun h_ => h_.elim (HV.oldSep (i := 1) rfl (hra.at_ (ci_rd (i := k) (by omega) (by omega)))) (HV.oldSep (i := 2) rfl (hra.at_ (ci_rd (i := k) (by omega) (by omega)))))) (HV.old0 (hra.at_ (ci_rd (i := k) (by omega) (by omega))))))) HK ?_
          refine t_c (n := 3) 26 (f := 15) (args := #[.pointer (some ⟨g7, 0, none⟩), .int .i64 (rdI l k)]) rfl (by kernel_rfl) (by kernel_rfl) (R_call #[.pointer (some ⟨g7, 0, none⟩), .int .i64 (rdI l k)] Tryd.func15 (by kernel_rfl) (by kernel_rfl) (by kernel_rfl)) ?_
          refine (mhas g7 n (addL n L (rdI l k)) x24 (rdI l k) _ (HS.hasP (i := 2) rfl) hok25 (by omega) (by omega)).mono ?_
          rintro e W33 ⟨rfl, H_⟩
          refine ⟨_, rfl, HK.tr H_.kept.nil, ?_⟩
          replace HK := HK.tr H_.kept.nil
          replace HS : St W (owns []) W33 [blk g12 [.slice (some ⟨a13, 0, none⟩) ws28.length c14, .int .i64 n] 62, row (some ⟨a13, 0, none⟩) ws28.length c14 (ci .u64 ws28) 63 1, many (mxE 53 74 21 62 63 g7 n (addL n L (rdI l k)) x24)] := HS.join (F := []) (G := []) H_
          clear H_
          refine t_c (n := 2) 32 (f := 16) (args := #[.pointer (some ⟨g12, 0, none⟩), .int .i64 (rdI l k)]) rfl (by kernel_rfl) (by kernel_rfl) (R_call #[.pointer (some ⟨g12, 0, none⟩), .int .i64 (rdI l k)] Tryd.func16 (by kernel_rfl) (by kernel_rfl) (by kernel_rfl)) ?_
          refine (dhas g12 c14 (some ⟨a13, 0, none⟩) ws28 n (addL n L (rdI l k)) (rdI l k) _ (HS.cell (i := 0) (j := 0) rfl rfl) (HS.cell (i := 0) (j := 1) rfl rfl) (Rd.row HS (i := 1) rfl) hR29 (by omega)).mono ?_
          rintro e W34 ⟨rfl, H_⟩
          refine ⟨_, rfl, HK.tr H_.kept.nil, ?_⟩
          replace HK := HK.tr H_.kept.nil
          replace HS : St W (owns []) W34 [blk g12 [.slice (some ⟨a13, 0, none⟩) ws28.length c14, .int .i64 n] 62, row (some ⟨a13, 0, none⟩) ws28.length c14 (ci .u64 ws28) 63 1, many (mxE 53 74 21 62 63 g7 n (addL n L (rdI l k)) x24)] := HS.join (F := []) (G := []) H_
          clear H_
          refine t_q (n := 1) 33 (.bool false) rfl (by kernel_rfl) (by kernel_rfl) (fun _ _ _ h => h) (fun w' hk => (R_beq (b := ((decide (rdI l k ∈ (addL n L (rdI l k)))) != (decide (rdI l k ∈ (addL n L (rdI l k)))))) (by kernel_rfl) (bne_same _))) HK ?_
          refine t_q (n := 0) 34 (.bool false) rfl (by kernel_rfl) (by kernel_rfl) (fun _ _ _ h => h) (fun w' hk => (by kernel_rfl)) HK ?_
          refine t_done (by kernel_rfl) ?_
          clear HV HK
          refine x_then ?_
          refine wp_cond_false (by kernel_rfl) ?_
          refine wp_skip ?_
          refine x_inb ?_
          refine x_then ?_
          refine wp_region_lit ?_
          refine ql (.int .i64 k) (by kernel_rfl) (by kernel_rfl) ?_
          refine ql (.int .i64 (k + 1)) (by kernel_rfl) (R_int (by kernel_rfl) (w64 (by omega))) ?_
          refine ql (.int .i64 (k + 1)) (by kernel_rfl) (by kernel_rfl) ?_
          refine wpList_nil ?_
          replace HS : St W (owns []) W34 [many (mxE 53 74 21 62 63 g7 n (addL n L (rdI l k)) x24), blk g12 [.slice (some ⟨a13, 0, none⟩) ws28.length c14, .int .i64 n] 62, row (some ⟨a13, 0, none⟩) ws28.length c14 (ci .u64 ws28) 63 1] := St.tail (F := []) (HS.perm (perm_ [2, 0, 1] (by kernel_rfl) rfl))
          refine x_then ?_
          exact ⟨l.length - (k + 1).toNat, by omega, (fun k_ : Nat => List.getD ((.int .i64 n) :: (.slice (some ad23) l.length cl) :: undef :: undef :: ((J18 4)) :: (.pointer (some ⟨g7, 0, none⟩)) :: (.int .i64 0) :: (.pointer (some ⟨g12, 0, none⟩)) :: (.int .i64 0) :: (.int .i64 (k + 1)) :: undef :: (.slice (some ad23) l.length cl) :: (.int .i64 (l.length : Int)) :: (.bool false) :: (.bool false) :: (.int .i64 n) :: (.bool false) :: (.bool false) :: (.bool false) :: (.int .i64 n) :: (.bool false) :: (.bool false) :: undef :: (.tuple #[.pointer (some ⟨g7, 0, none⟩), .int .i64 0]) :: (.int .i64 n) :: (.tuple #[.pointer (some ⟨g7, 0, none⟩), .int .i64 0]) :: (.pointer (some ⟨g7, 0, none⟩)) :: (.int .i64 0) :: (.tuple #[.pointer (some ⟨g12, 0, none⟩), .int .i64 0]) :: (.int .i64 n) :: (.tuple #[.pointer (some ⟨g12, 0, none⟩), .int .i64 0]) :: (.pointer (some ⟨g12, 0, none⟩)) :: (.int .i64 0) :: (.pointer (some ⟨g7, 0, none⟩)) :: (.bool false) :: (.bool false) :: (.pointer (some ⟨g12, 0, none⟩)) :: (.bool false) :: (.bool false) :: (.bool false) :: (.int .i64 0) :: (.bool false) :: (.bool false) :: (.bool false) :: (.int .i64 0) :: (.bool false) :: (.bool false) :: (.int .i64 k) :: (.slice (some ad23) l.length cl) :: (.int .i64 (l.length : Int)) :: (.bool true) :: (.int .i64 k) :: (.int .i64 (k + 1)) :: (.pointer (some ⟨g7, 0, none⟩)) :: (.slice (some ad23) l.length cl) :: (.int .i64 k) :: (.pointer (some (ad23.add k.toNat))) :: (.int .i64 (rdI l k)) :: (.bool (addB n L (rdI l k))) :: (.pointer (some ⟨g12, 0, none⟩)) :: (.slice (some ad23) l.length cl) :: (.int .i64 k) :: (.pointer (some (ad23.add k.toNat))) :: (.int .i64 (rdI l k)) :: (.bool (addB n L (rdI l k))) :: (.bool false) :: (.bool false) :: (.pointer (some ⟨g7, 0, none⟩)) :: (.int .i64 ((addL n L (rdI l k)).length : Int)) :: (.pointer (some ⟨g12, 0, none⟩)) :: (.int .i64 ((addL n L (rdI l k)).length : Int)) :: (.bool false) :: (.bool false) :: (.bool false) :: (.pointer (some ⟨g7, 0, none⟩)) :: (.slice (some ad23) l.length cl) :: (.int .i64 k) :: (.pointer (some (ad23.add k.toNat))) :: (.int .i64 (rdI l k)) :: (.bool (decide (rdI l k ∈ (addL n L (rdI l k))))) :: (.pointer (some ⟨g12, 0, none⟩)) :: (.slice (some ad23) l.length cl) :: (.int .i64 k) :: (.pointer (some (ad23.add k.toNat))) :: (.int .i64 (rdI l k)) :: (.bool (decide (rdI l k ∈ (addL n L (rdI l k))))) :: (.bool false) :: (.bool false) :: undef :: undef :: undef :: undef :: undef :: undef :: undef :: undef :: undef :: undef :: undef :: undef :: undef :: undef :: undef :: undef :: undef :: undef :: undef :: undef :: undef :: undef :: undef :: undef :: undef :: undef :: undef :: undef :: undef :: undef :: undef :: undef :: undef :: undef :: undef :: undef :: undef :: undef :: undef :: undef :: undef :: undef :: undef :: undef :: undef :: undef :: undef :: undef :: undef :: undef :: undef :: undef :: undef :: undef :: undef :: undef :: undef :: undef :: []) k_ undef), k + 1, (addL n L (rdI l k)), x24, ws28, congrArg Fr (by kernel_rfl), rfl, by omega, by omega, hok25, hR29, HS⟩
        · skip
          refine ql (.bool false) (by kernel_rfl) (R_nbool (p := k < (l.length : Int)) (by kernel_rfl) (hc21)) ?_
          refine wpList_nil ?_
          refine x_then ?_
          refine wp_cond_false (by kernel_rfl) ?_
          refine wp_exit ?_
          refine x_thenE ?_
          refine x_thenE ?_
          refine x_hit ?_
          refine x_then ?_
          refine wp_seq ?_
          have hlw := hok.len (by omega)
          refine wp_region_lit ?_
          refine ql (.pointer none) (by kernel_rfl) (by kernel_rfl) ?_
          refine wpList_nil ?_
          refine x_then ?_
          refine wp_seq ?_
          refine wp_region_lit ?_
          refine ql (.pointer none) (by kernel_rfl) (by kernel_rfl) ?_
          refine qc (f := 17) (args := #[.pointer none, .int .i64 0, .int .i64 5]) (by kernel_rfl) (R_call #[.pointer none, .int .i64 0, .int .i64 5] Tryd.func17 (by kernel_rfl) (by kernel_rfl) (by kernel_rfl)) ?_
          refine (mfill_nil 0 5 _).mono ?_
          rintro e W35 ⟨rfl, H_⟩
          refine ⟨_, rfl, ?_⟩
          replace HS : St W (owns []) W35 [many (mxE 53 74 21 62 63 g7 n L x), blk g12 [.slice (some ⟨a13, 0, none⟩) ws.length c14, .int .i64 n] 62, row (some ⟨a13, 0, none⟩) ws.length c14 (ci .u64 ws) 63 1] := HS.join (F := []) (G := []) H_
          clear H_
          refine wpList_nil ?_
          refine x_then ?_
          refine wp_seq ?_
          refine wp_region_lit ?_
          refine ql (.pointer (some ⟨g7, 0, none⟩)) (by kernel_rfl) (by kernel_rfl) ?_
          refine qc (f := 19) (args := #[.pointer (some ⟨g7, 0, none⟩)]) (by kernel_rfl) (R_call #[.pointer (some ⟨g7, 0, none⟩)] Tryd.func19 (by kernel_rfl) (by kernel_rfl) (by kernel_rfl)) ?_
          refine (mlist g7 n L x _ (HS.hasP (i := 0) rfl) hok (by omega) (by omega) (hT.old0 HS)).mono ?_
          rintro e W38 ⟨A36, c37, rfl, H_⟩
          refine ⟨_, rfl, ?_⟩
          replace HS : St W (owns []) W38 [row A36 L.length c37 (ci .i64 L) 3 1, many (mxE 53 74 21 62 63 g7 n L x), blk g12 [.slice (some ⟨a13, 0, none⟩) ws.length c14, .int .i64 n] 62, row (some ⟨a13, 0, none⟩) ws.length c14 (ci .u64 ws) 63 1] := HS.join (F := []) (G := [row A36 L.length c37 (ci .i64 L) 3 1]) H_
          clear H_
          refine ql (.pointer (some ⟨g12, 0, none⟩)) (by kernel_rfl) (by kernel_rfl) ?_
          refine qc (f := 20) (args := #[.pointer (some ⟨g12, 0, none⟩)]) (by kernel_rfl) (R_call #[.pointer (some ⟨g12, 0, none⟩)] Tryd.func20 (by kernel_rfl) (by kernel_rfl) (by kernel_rfl)) ?_
          refine (dlist g12 c14 (some ⟨a13, 0, none⟩) ws n L _ (HS.cell (i := 2) (j := 0) rfl rfl) (HS.cell (i := 2) (j := 1) rfl rfl) (Rd.row HS (i := 3) rfl) hR (by omega) (hT.old0 HS)).mono ?_
          rintro e W41 ⟨A39, c40, rfl, H_⟩
          refine ⟨_, rfl, ?_⟩
          replace HS : St W (owns []) W41 [row A39 L.length c40 (ci .i64 L) 3 1, row A36 L.length c37 (ci .i64 L) 3 1, many (mxE 53 74 21 62 63 g7 n L x), blk g12 [.slice (some ⟨a13, 0, none⟩) ws.length c14, .int .i64 n] 62, row (some ⟨a13, 0, none⟩) ws.length c14 (ci .u64 ws) 63 1] := HS.join (F := []) (G := [row A39 L.length c40 (ci .i64 L) 3 1]) H_
          clear H_
          refine qc (f := 18) (args := #[.slice A36 L.length c37, .slice A39 L.length c40]) (by kernel_rfl) (R_call #[.slice A36 L.length c37, .slice A39 L.length c40] Tryd.func18 (by kernel_rfl) (by kernel_rfl) (by kernel_rfl)) ?_
          refine (r1same A36 A39 c37 c40 L L _ (Rd.row HS (i := 1) rfl) (by first | omega | decide) (Rd.row HS (i := 0) rfl) (by first | omega | decide)).mono ?_
          rintro e W42 ⟨rfl, H_⟩
          rw [decide_eq_true rfl]
          refine ⟨_, rfl, ?_⟩
          replace HS : St W (owns []) W42 [row A39 L.length c40 (ci .i64 L) 3 1, row A36 L.length c37 (ci .i64 L) 3 1, many (mxE 53 74 21 62 63 g7 n L x), blk g12 [.slice (some ⟨a13, 0, none⟩) ws.length c14, .int .i64 n] 62, row (some ⟨a13, 0, none⟩) ws.length c14 (ci .u64 ws) 63 1] := HS.join (F := []) (G := []) H_
          clear H_
          refine ql (.bool true) (by kernel_rfl) (by kernel_rfl) ?_
          refine ql (.pointer none) (by kernel_rfl) (by kernel_rfl) ?_
          refine qc (f := 21) (args := #[.pointer none]) (by kernel_rfl) (R_call #[.pointer none] Tryd.func21 (by kernel_rfl) (by kernel_rfl) (by kernel_rfl)) ?_
          refine (msize_nil _).mono ?_
          rintro e W43 ⟨rfl, H_⟩
          refine ⟨_, rfl, ?_⟩
          replace HS : St W (owns []) W43 [row A39 L.length c40 (ci .i64 L) 3 1, row A36 L.length c37 (ci .i64 L) 3 1, many (mxE 53 74 21 62 63 g7 n L x), blk g12 [.slice (some ⟨a13, 0, none⟩) ws.length c14, .int .i64 n] 62, row (some ⟨a13, 0, none⟩) ws.length c14 (ci .u64 ws) 63 1] := HS.join (F := []) (G := []) H_
          clear H_
          refine ql (.bool true) (by kernel_rfl) (R_beq (b := ((0 : Int) == 0)) (by kernel_rfl) (by decide)) ?_
          refine ql (.bool true) (by kernel_rfl) (by kernel_rfl) ?_
          refine ql (.bool true) (by kernel_rfl) (by kernel_rfl) ?_
          refine ql (.pointer none) (by kernel_rfl) (by kernel_rfl) ?_
          refine qc (f := 11) (args := #[.pointer none, .int .i64 1]) (by kernel_rfl) (R_call #[.pointer none, .int .i64 1] Tryd.func11 (by kernel_rfl) (by kernel_rfl) (by kernel_rfl)) ?_
          refine (madd_nil 1 _).mono ?_
          rintro e W44 ⟨rfl, H_⟩
          refine ⟨_, rfl, ?_⟩
          replace HS : St W (owns []) W44 [row A39 L.length c40 (ci .i64 L) 3 1, row A36 L.length c37 (ci .i64 L) 3 1, many (mxE 53 74 21 62 63 g7 n L x), blk g12 [.slice (some ⟨a13, 0, none⟩) ws.length c14, .int .i64 n] 62, row (some ⟨a13, 0, none⟩) ws.length c14 (ci .u64 ws) 63 1] := HS.join (F := []) (G := []) H_
          clear H_
          refine ql (.bool true) (by kernel_rfl) (by kernel_rfl) ?_
          refine ql (.bool true) (by kernel_rfl) (by kernel_rfl) ?_
          refine ql (.bool true) (by kernel_rfl) (by kernel_rfl) ?_
          refine ql (.pointer none) (by kernel_rfl) (by kernel_rfl) ?_
          refine ql (.pointer (some ⟨g7, 0, none⟩)) (by kernel_rfl) (by kernel_rfl) ?_
          refine qc (f := 22) (args := #[.pointer none, .pointer (some ⟨g7, 0, none⟩)]) (by kernel_rfl) (R_call #[.pointer none, .pointer (some ⟨g7, 0, none⟩)] Tryd.func22 (by kernel_rfl) (by kernel_rfl) (by kernel_rfl)) ?_
          refine (mor_nl g7 _).mono ?_
          rintro e W45 ⟨rfl, H_⟩
          refine ⟨_, rfl, ?_⟩
          replace HS : St W (owns []) W45 [row A39 L.length c40 (ci .i64 L) 3 1, row A36 L.length c37 (ci .i64 L) 3 1, many (mxE 53 74 21 62 63 g7 n L x), blk g12 [.slice (some ⟨a13, 0, none⟩) ws.length c14, .int .i64 n] 62, row (some ⟨a13, 0, none⟩) ws.length c14 (ci .u64 ws) 63 1] := HS.join (F := []) (G := []) H_
          clear H_
          refine ql (.bool true) (by kernel_rfl) (by kernel_rfl) ?_
          refine ql (.bool true) (by kernel_rfl) (by kernel_rfl) ?_
          refine ql (.bool true) (by kernel_rfl) (by kernel_rfl) ?_
          refine ql (.pointer (some ⟨g7, 0, none⟩)) (by kernel_rfl) (by kernel_rfl) ?_
          refine ql (.pointer none) (by kernel_rfl) (by kernel_rfl) ?_
          refine qc (f := 22) (args := #[.pointer (some ⟨g7, 0, none⟩), .pointer none]) (by kernel_rfl) (R_call #[.pointer (some ⟨g7, 0, none⟩), .pointer none] Tryd.func22 (by kernel_rfl) (by kernel_rfl) (by kernel_rfl)) ?_
          refine (mor_nr g7 _).mono ?_
          rintro e W46 ⟨rfl, H_⟩
          refine ⟨_, rfl, ?_⟩
          replace HS : St W (owns []) W46 [row A39 L.length c40 (ci .i64 L) 3 1, row A36 L.length c37 (ci .i64 L) 3 1, many (mxE 53 74 21 62 63 g7 n L x), blk g12 [.slice (some ⟨a13, 0, none⟩) ws.length c14, .int .i64 n] 62, row (some ⟨a13, 0, none⟩) ws.length c14 (ci .u64 ws) 63 1] := HS.join (F := []) (G := []) H_
          clear H_
          refine ql (.bool true) (by kernel_rfl) (by kernel_rfl) ?_
          refine ql (.bool true) (by kernel_rfl) (by kernel_rfl) ?_
          refine ql (.bool true) (by kernel_rfl) (by kernel_rfl) ?_
          refine ql (.pointer none) (by kernel_rfl) (by kernel_rfl) ?_
          refine qc (f := 13) (args := #[.pointer none]) (by kernel_rfl) (R_call #[.pointer none] Tryd.func13 (by kernel_rfl) (by kernel_rfl) (by kernel_rfl)) ?_
          refine (mlen_nil _).mono ?_
          rintro e W47 ⟨rfl, H_⟩
          refine ⟨_, rfl, ?_⟩
          replace HS : St W (owns []) W47 [row A39 L.length c40 (ci .i64 L) 3 1, row A36 L.length c37 (ci .i64 L) 3 1, many (mxE 53 74 21 62 63 g7 n L x), blk g12 [.slice (some ⟨a13, 0, none⟩) ws.length c14, .int .i64 n] 62, row (some ⟨a13, 0, none⟩) ws.length c14 (ci .u64 ws) 63 1] := HS.join (F := []) (G := []) H_
          clear H_
          refine ql (.bool true) (by kernel_rfl) (R_beq (b := ((0 : Int) == 0)) (by kernel_rfl) (by decide)) ?_
          refine ql (.bool true) (by kernel_rfl) (by kernel_rfl) ?_
          refine ql (.bool true) (by kernel_rfl) (by kernel_rfl) ?_
          refine ql (.pointer none) (by kernel_rfl) (by kernel_rfl) ?_
          refine qc (f := 23) (args := #[.pointer none]) (by kernel_rfl) (R_call #[.pointer none] Tryd.func23 (by kernel_rfl) (by kernel_rfl) (by kernel_rfl)) ?_
          refine (mdense_nil _).mono ?_
          rintro e W48 ⟨rfl, H_⟩
          refine ⟨_, rfl, ?_⟩
          replace HS : St W (owns []) W48 [row A39 L.length c40 (ci .i64 L) 3 1, row A36 L.length c37 (ci .i64 L) 3 1, many (mxE 53 74 21 62 63 g7 n L x), blk g12 [.slice (some ⟨a13, 0, none⟩) ws.length c14, .int .i64 n] 62, row (some ⟨a13, 0, none⟩) ws.length c14 (ci .u64 ws) 63 1] := HS.join (F := []) (G := []) H_
          clear H_
          refine ql (.bool true) (by kernel_rfl) (by kernel_rfl) ?_
          refine ql (.bool true) (by kernel_rfl) (by kernel_rfl) ?_
          refine ql (.bool true) (by kernel_rfl) (by kernel_rfl) ?_
          refine ql (.pointer none) (by kernel_rfl) (by kernel_rfl) ?_
          refine qc (f := 24) (args := #[.pointer none]) (by kernel_rfl) (R_call #[.pointer none] Tryd.func24 (by kernel_rfl) (by kernel_rfl) (by kernel_rfl)) ?_
          refine (mwords_nil _).mono ?_
          rintro e W49 ⟨rfl, H_⟩
          refine ⟨_, rfl, ?_⟩
          replace HS : St W (owns []) W49 [row A39 L.length c40 (ci .i64 L) 3 1, row A36 L.length c37 (ci .i64 L) 3 1, many (mxE 53 74 21 62 63 g7 n L x), blk g12 [.slice (some ⟨a13, 0, none⟩) ws.length c14, .int .i64 n] 62, row (some ⟨a13, 0, none⟩) ws.length c14 (ci .u64 ws) 63 1] := HS.join (F := []) (G := []) H_
          clear H_
          refine ql (.bool true) (by kernel_rfl) (R_beq (b := ((0 : Int) == 0)) (by kernel_rfl) (by decide)) ?_
          refine ql (.bool true) (by kernel_rfl) (by kernel_rfl) ?_
          refine ql (.bool true) (by kernel_rfl) (by kernel_rfl) ?_
          refine ql (.pointer none) (by kernel_rfl) (by kernel_rfl) ?_
          refine qc (f := 15) (args := #[.pointer none, .int .i64 0]) (by kernel_rfl) (R_call #[.pointer none, .int .i64 0] Tryd.func15 (by kernel_rfl) (by kernel_rfl) (by kernel_rfl)) ?_
          refine (mhas_nil 0 _).mono ?_
          rintro e W50 ⟨rfl, H_⟩
          refine ⟨_, rfl, ?_⟩
          replace HS : St W (owns []) W50 [row A39 L.length c40 (ci .i64 L) 3 1, row A36 L.length c37 (ci .i64 L) 3 1, many (mxE 53 74 21 62 63 g7 n L x), blk g12 [.slice (some ⟨a13, 0, none⟩) ws.length c14, .int .i64 n] 62, row (some ⟨a13, 0, none⟩) ws.length c14 (ci .u64 ws) 63 1] := HS.join (F := []) (G := []) H_
          clear H_
          refine ql (.bool true) (by kernel_rfl) (by kernel_rfl) ?_
          refine ql (.bool true) (by kernel_rfl) (by kernel_rfl) ?_
          refine ql (.bool true) (by kernel_rfl) (by kernel_rfl) ?_
          refine ql (.pointer none) (by kernel_rfl) (by kernel_rfl) ?_
          refine qc (f := 19) (args := #[.pointer none]) (by kernel_rfl) (R_call #[.pointer none] Tryd.func19 (by kernel_rfl) (by kernel_rfl) (by kernel_rfl)) ?_
          refine (mlist_nil _).mono ?_
          rintro e W53 ⟨A51, c52, rfl, H_⟩
          refine ⟨_, rfl, ?_⟩
          replace HS : St W (owns []) W53 [row A51 0 c52 (ci .i64 ([])) 3 1, row A39 L.length c40 (ci .i64 L) 3 1, row A36 L.length c37 (ci .i64 L) 3 1, many (mxE 53 74 21 62 63 g7 n L x), blk g12 [.slice (some ⟨a13, 0, none⟩) ws.length c14, .int .i64 n] 62, row (some ⟨a13, 0, none⟩) ws.length c14 (ci .u64 ws) 63 1] := HS.join (F := []) (G := [row A51 0 c52 (ci .i64 ([])) 3 1]) H_
          clear H_
          refine ql (.int .i64 0) (by kernel_rfl) (by kernel_rfl) ?_
          refine ql (.bool true) (by kernel_rfl) (R_beq (b := ((0 : Int) == 0)) (by kernel_rfl) (by decide)) ?_
          refine ql (.bool true) (by kernel_rfl) (by kernel_rfl) ?_
          refine ql (.bool true) (by kernel_rfl) (by kernel_rfl) ?_
          refine qc (f := 5) (args := #[]) (by kernel_rfl) (R_call #[] Tryd.func5 (by kernel_rfl) (by kernel_rfl) (by kernel_rfl)) ?_
          refine (mawake _).mono ?_
          rintro e W54 ⟨rfl, H_⟩
          refine ⟨_, rfl, ?_⟩
          replace HS : St W (owns []) W54 [row A51 0 c52 (ci .i64 ([])) 3 1, row A39 L.length c40 (ci .i64 L) 3 1, row A36 L.length c37 (ci .i64 L) 3 1, many (mxE 53 74 21 62 63 g7 n L x), blk g12 [.slice (some ⟨a13, 0, none⟩) ws.length c14, .int .i64 n] 62, row (some ⟨a13, 0, none⟩) ws.length c14 (ci .u64 ws) 63 1] := HS.join (F := []) (G := []) H_
          clear H_
          refine ql (.bool true) (by kernel_rfl) (by kernel_rfl) ?_
          refine ql (.bool true) (by kernel_rfl) (by kernel_rfl) ?_
          refine wpList_nil ?_
          refine x_then ?_
          refine wp_ret ?_
          refine ret_ (.bool true) (by kernel_rfl) ?_
          replace HS := HS.drop1
          replace HS := HS.drop1
          replace HS := HS.drop1
          replace HS := HS.drop1
          replace HS := HS.drop1
          replace HS := HS.drop1
          exact ⟨rfl, HS⟩

end Go.Proofs.YtdiodmdohkjafaaDoor
