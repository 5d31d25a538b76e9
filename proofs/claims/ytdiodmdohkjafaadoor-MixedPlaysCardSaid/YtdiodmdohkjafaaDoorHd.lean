/- The law MixedPlays holds at every input. This text: the walks through the functions that the statement reaches. No condition but those in the statement. -/
import Derived.WalkKit
import Derived.StillTailTactics
import Derived.Deep.LoopGhost
import Derived.KernelRfl
import Derived.Deep.OwnRows
import Derived.Laws.OwnMore
import Derived.Laws.MakeOwn
import Derived.Maps.AppendAt
import Derived.OrdersHeld
import Derived.Test.YtdiodmdohkjafaaDoorProg
import Derived.Test.YtdiodmdohkjafaaDoorHa
import Derived.Test.YtdiodmdohkjafaaDoorHb
import Derived.Test.YtdiodmdohkjafaaDoorHc
namespace Go.Proofs.YtdiodmdohkjafaaDoor
open Go Go.RowKit Go.Shelf Go.Proofs.YtdiodmdohkjafaaDoor.Hp
attribute [local irreducible] wpStill wpList Code.wp TA
set_option linter.unusedVariables false
set_option linter.unusedSimpArgs false
set_option maxRecDepth 100000 in
set_option maxHeartbeats 1000000 in
theorem mor_ne_ff (g q c : Nat) (A : Option Addr) (h q2 c2 : Nat) (B : Option Addr) (n m : Int) (L M : List Int) (W : World) (M_ : Nat → Prop) (HS : St W M_ W [blk g [.pointer (some ⟨q, 0, none⟩), .pointer none, .int .i64 n] 53, blk q [.slice A L.length c] 74, row A L.length c (ci .i32 L) 21 1, blk h [.pointer (some ⟨q2, 0, none⟩), .pointer none, .int .i64 m] 53, blk q2 [.slice B M.length c2] 74, row B M.length c2 (ci .i32 M) 21 1]) (hne : n ≠ m) : Calls Tryd.prog 22 #[.pointer (some ⟨g, 0, none⟩), .pointer (some ⟨h, 0, none⟩)] W fun e W' => e = .returned (.bool false) ∧ St W M_ W' [blk g [.pointer (some ⟨q, 0, none⟩), .pointer none, .int .i64 n] 53, blk q [.slice A L.length c] 74, row A L.length c (ci .i32 L) 21 1, blk h [.pointer (some ⟨q2, 0, none⟩), .pointer none, .int .i64 m] 53, blk q2 [.slice B M.length c2] 74, row B M.length c2 (ci .i32 M) 21 1] := by
  refine calls_enterM ((.pointer (some ⟨g, 0, none⟩)) :: (.pointer (some ⟨h, 0, none⟩)) :: undef :: undef :: undef :: undef :: undef :: undef :: undef :: undef :: undef :: undef :: undef :: undef :: undef :: undef :: undef :: undef :: undef :: undef :: undef :: undef :: undef :: undef :: undef :: undef :: undef :: undef :: undef :: undef :: undef :: undef :: undef :: undef :: undef :: undef :: undef :: undef :: undef :: undef :: undef :: undef :: undef :: undef :: undef :: undef :: undef :: undef :: undef :: undef :: undef :: undef :: undef :: undef :: undef :: undef :: undef :: undef :: undef :: undef :: undef :: undef :: undef :: undef :: undef :: undef :: undef :: undef :: undef :: undef :: undef :: undef :: undef :: undef :: undef :: undef :: undef :: undef :: undef :: undef :: undef :: undef :: undef :: undef :: undef :: undef :: undef :: undef :: undef :: undef :: undef :: undef :: undef :: undef :: undef :: undef :: undef :: undef :: undef :: undef :: undef :: undef :: undef :: undef :: undef :: undef :: undef :: undef :: undef :: undef :: undef :: undef :: undef :: undef :: undef :: undef :: undef :: undef :: undef :: undef :: undef :: undef :: undef :: undef :: undef :: undef :: undef :: undef :: undef :: []) Tryd.func22 rfl (by kernel_rfl) ?_
  refine wp_seq ?_
  refine wp_region_lit ?_
  refine kb HS [.pointer (some ⟨g, 0, none⟩)] 24 (fun g => .pointer (some ⟨g, 0, none⟩)) (by kernel_rfl) (by kernel_rfl) ?_
  intro g1 W2 H_
  replace HS : St W M_ W2 [blk g1 [.pointer (some ⟨g, 0, none⟩)] 24, blk g [.pointer (some ⟨q, 0, none⟩), .pointer none, .int .i64 n] 53, blk q [.slice A L.length c] 74, row A L.length c (ci .i32 L) 21 1, blk h [.pointer (some ⟨q2, 0, none⟩), .pointer none, .int .i64 m] 53, blk q2 [.slice B M.length c2] 74, row B M.length c2 (ci .i32 M) 21 1] := H_
  clear H_
  refine ql (.bool false) (by kernel_rfl) (by kernel_rfl) ?_
  refine wpList_nil ?_
  refine x_then ?_
  refine wp_seq ?_
  refine wp_block ?_
  refine wp_seq ?_
  refine rg_still HS 17 (by kernel_rfl) (by kernel_rfl) ?_
  intro W3 H_ HK_
  simp only [List.take_succ_cons, List.take_zero, List.drop_succ_cons, List.drop_zero]
  replace HS : St W M_ W3 [blk g1 [.pointer (some ⟨g, 0, none⟩)] 24, blk g [.pointer (some ⟨q, 0, none⟩), .pointer none, .int .i64 n] 53, blk q [.slice A L.length c] 74, row A L.length c (ci .i32 L) 21 1, blk h [.pointer (some ⟨q2, 0, none⟩), .pointer none, .int .i64 m] 53, blk q2 [.slice B M.length c2] 74, row B M.length c2 (ci .i32 M) 21 1] := H_
  clear H_
  clear HK_
  refine qs (.pointer (some ⟨g, 0, none⟩)) (by kernel_rfl) (R_load (p := ⟨g1, 0, none⟩) (by kernel_rfl) (by kernel_rfl) (by kernel_rfl) (HS.cell (i := 0) (j := 0) rfl rfl)) ?_
  refine qs (.bool false) (by kernel_rfl) (by kernel_rfl) ?_
  refine qs (.bool false) (by kernel_rfl) (by kernel_rfl) ?_
  refine qs (.pointer (some ⟨h, 0, none⟩)) (by kernel_rfl) (by kernel_rfl) ?_
  refine qs (.bool false) (by kernel_rfl) (by kernel_rfl) ?_
  refine qs (.bool false) (by kernel_rfl) (by kernel_rfl) ?_
  refine qs (.bool false) (by kernel_rfl) (by kernel_rfl) ?_
  refine qs (.pointer (some ⟨g, 0, none⟩)) (by kernel_rfl) (R_load (p := ⟨g1, 0, none⟩) (by kernel_rfl) (by kernel_rfl) (by kernel_rfl) (HS.cell (i := 0) (j := 0) rfl rfl)) ?_
  refine qs (.pointer (some ⟨g, 0, none⟩)) (by kernel_rfl) (by kernel_rfl) ?_
  refine qs (.pointer (some ⟨g, 2, none⟩)) (by kernel_rfl) (by kernel_rfl) ?_
  refine qs (.int .i64 n) (by kernel_rfl) (R_load (p := ⟨g, 2, none⟩) (by kernel_rfl) (by kernel_rfl) (by kernel_rfl) (HS.cell (i := 1) (j := 2) rfl rfl)) ?_
  refine qs (.pointer (some ⟨h, 0, none⟩)) (by kernel_rfl) (by kernel_rfl) ?_
  refine qs (.pointer (some ⟨h, 0, none⟩)) (by kernel_rfl) (by kernel_rfl) ?_
  refine qs (.pointer (some ⟨h, 2, none⟩)) (by kernel_rfl) (by kernel_rfl) ?_
  refine qs (.int .i64 m) (by kernel_rfl) (R_load (p := ⟨h, 2, none⟩) (by kernel_rfl) (by kernel_rfl) (by kernel_rfl) (HS.cell (i := 4) (j := 2) rfl rfl)) ?_
  refine qs (.bool true) (by kernel_rfl) (R_beq (b := (n != m)) (by kernel_rfl) (bne_t (by omega))) ?_
  refine qs (.bool true) (by kernel_rfl) (by kernel_rfl) ?_
  refine wpStill_nil ?_
  refine ql (.bool true) (by kernel_rfl) (by kernel_rfl) ?_
  refine wpList_nil ?_
  refine x_then ?_
  refine wp_cond_true (by kernel_rfl) ?_
  refine wp_seq ?_
  refine wp_region_lit ?_
  refine ql (.bool false) (by kernel_rfl) (by kernel_rfl) ?_
  refine wpList_nil ?_
  refine x_then ?_
  refine wp_ret ?_
  refine x_inbR ?_
  refine x_thenR ?_
  refine retM_ (.bool false) (by kernel_rfl) ?_
  replace HS := HS.drop1
  exact ⟨rfl, HS⟩

set_option maxRecDepth 100000 in
set_option maxHeartbeats 1000000 in
theorem mor_eq_ff (g q c : Nat) (A : Option Addr) (h q2 c2 : Nat) (B : Option Addr) (n : Int) (L M : List Int) (W : World) (M_ : Nat → Prop) (HS : St W M_ W [blk g [.pointer (some ⟨q, 0, none⟩), .pointer none, .int .i64 n] 53, blk q [.slice A L.length c] 74, row A L.length c (ci .i32 L) 21 1, blk h [.pointer (some ⟨q2, 0, none⟩), .pointer none, .int .i64 n] 53, blk q2 [.slice B M.length c2] 74, row B M.length c2 (ci .i32 M) 21 1]) (hs : S31 L) (hlim : ∀ x ∈ L, x < n) (hl : L.length ≤ 8) (hs2 : S31 M) (hlim2 : ∀ x ∈ M, x < n) (hl2 : M.length ≤ 8) (h0 : 0 ≤ n) (hn : n ≤ 1048576) : Calls Tryd.prog 22 #[.pointer (some ⟨g, 0, none⟩), .pointer (some ⟨h, 0, none⟩)] W fun e W' => ∃ x', e = .returned (.bool (newB L M)) ∧ St W M_ W' (many (mxE 53 74 21 62 63 g n (uni L M) x') :: [blk h [.pointer (some ⟨q2, 0, none⟩), .pointer none, .int .i64 n] 53, blk q2 [.slice B M.length c2] 74, row B M.length c2 (ci .i32 M) 21 1]) ∧ x'.ok n (uni L M) ∧ x'.b = decide (8 < (uni L M).length) := by
  have hlu : ∀ x ∈ uni L M, x < n := fun x hx => (mem_uni.1 hx).elim (hlim x) (hlim2 x)
  refine calls_enterM ((.pointer (some ⟨g, 0, none⟩)) :: (.pointer (some ⟨h, 0, none⟩)) :: undef :: undef :: undef :: undef :: undef :: undef :: undef :: undef :: undef :: undef :: undef :: undef :: undef :: undef :: undef :: undef :: undef :: undef :: undef :: undef :: undef :: undef :: undef :: undef :: undef :: undef :: undef :: undef :: undef :: undef :: undef :: undef :: undef :: undef :: undef :: undef :: undef :: undef :: undef :: undef :: undef :: undef :: undef :: undef :: undef :: undef :: undef :: undef :: undef :: undef :: undef :: undef :: undef :: undef :: undef :: undef :: undef :: undef :: undef :: undef :: undef :: undef :: undef :: undef :: undef :: undef :: undef :: undef :: undef :: undef :: undef :: undef :: undef :: undef :: undef :: undef :: undef :: undef :: undef :: undef :: undef :: undef :: undef :: undef :: undef :: undef :: undef :: undef :: undef :: undef :: undef :: undef :: undef :: undef :: undef :: undef :: undef :: undef :: undef :: undef :: undef :: undef :: undef :: undef :: undef :: undef :: undef :: undef :: undef :: undef :: undef :: undef :: undef :: undef :: undef :: undef :: undef :: undef :: undef :: undef :: undef :: undef :: undef :: undef :: undef :: undef :: undef :: []) Tryd.func22 rfl (by kernel_rfl) ?_
  refine wp_seq ?_
  refine wp_region_lit ?_
  refine kb HS [.pointer (some ⟨g, 0, none⟩)] 24 (fun g => .pointer (some ⟨g, 0, none⟩)) (by kernel_rfl) (by kernel_rfl) ?_
  intro g1 W2 H_
  replace HS : St W M_ W2 [blk g1 [.pointer (some ⟨g, 0, none⟩)] 24, blk g [.pointer (some ⟨q, 0, none⟩), .pointer none, .int .i64 n] 53, blk q [.slice A L.length c] 74, row A L.length c (ci .i32 L) 21 1, blk h [.pointer (some ⟨q2, 0, none⟩), .pointer none, .int .i64 n] 53, blk q2 [.slice B M.length c2] 74, row B M.length c2 (ci .i32 M) 21 1] := H_
  clear H_
  refine ql (.bool false) (by kernel_rfl) (by kernel_rfl) ?_
  refine wpList_nil ?_
  refine x_then ?_
  refine wp_seq ?_
  refine wp_block ?_
  refine wp_seq ?_
  refine rg_still HS 17 (by kernel_rfl) (by kernel_rfl) ?_
  intro W3 H_ HK_
  simp only [List.take_succ_cons, List.take_zero, List.drop_succ_cons, List.drop_zero]
  replace HS : St W M_ W3 [blk g1 [.pointer (some ⟨g, 0, none⟩)] 24, blk g [.pointer (some ⟨q, 0, none⟩), .pointer none, .int .i64 n] 53, blk q [.slice A L.length c] 74, row A L.length c (ci .i32 L) 21 1, blk h [.pointer (some ⟨q2, 0, none⟩), .pointer none, .int .i64 n] 53, blk q2 [.slice B M.length c2] 74, row B M.length c2 (ci .i32 M) 21 1] := H_
  clear H_
  clear HK_
  refine qs (.pointer (some ⟨g, 0, none⟩)) (by kernel_rfl) (R_load (p := ⟨g1, 0, none⟩) (by kernel_rfl) (by kernel_rfl) (by kernel_rfl) (HS.cell (i := 0) (j := 0) rfl rfl)) ?_
  refine qs (.bool false) (by kernel_rfl) (by kernel_rfl) ?_
  refine qs (.bool false) (by kernel_rfl) (by kernel_rfl) ?_
  refine qs (.pointer (some ⟨h, 0, none⟩)) (by kernel_rfl) (by kernel_rfl) ?_
  refine qs (.bool false) (by kernel_rfl) (by kernel_rfl) ?_
  refine qs (.bool false) (by kernel_rfl) (by kernel_rfl) ?_
  refine qs (.bool false) (by kernel_rfl) (by kernel_rfl) ?_
  refine qs (.pointer (some ⟨g, 0, none⟩)) (by kernel_rfl) (R_load (p := ⟨g1, 0, none⟩) (by kernel_rfl) (by kernel_rfl) (by kernel_rfl) (HS.cell (i := 0) (j := 0) rfl rfl)) ?_
  refine qs (.pointer (some ⟨g, 0, none⟩)) (by kernel_rfl) (by kernel_rfl) ?_
  refine qs (.pointer (some ⟨g, 2, none⟩)) (by kernel_rfl) (by kernel_rfl) ?_
  refine qs (.int .i64 n) (by kernel_rfl) (R_load (p := ⟨g, 2, none⟩) (by kernel_rfl) (by kernel_rfl) (by kernel_rfl) (HS.cell (i := 1) (j := 2) rfl rfl)) ?_
  refine qs (.pointer (some ⟨h, 0, none⟩)) (by kernel_rfl) (by kernel_rfl) ?_
  refine qs (.pointer (some ⟨h, 0, none⟩)) (by kernel_rfl) (by kernel_rfl) ?_
  refine qs (.pointer (some ⟨h, 2, none⟩)) (by kernel_rfl) (by kernel_rfl) ?_
  refine qs (.int .i64 n) (by kernel_rfl) (R_load (p := ⟨h, 2, none⟩) (by kernel_rfl) (by kernel_rfl) (by kernel_rfl) (HS.cell (i := 4) (j := 2) rfl rfl)) ?_
  refine qs (.bool false) (by kernel_rfl) (R_beq (b := (n != n)) (by kernel_rfl) (bne_f (by omega))) ?_
  refine qs (.bool false) (by kernel_rfl) (by kernel_rfl) ?_
  refine wpStill_nil ?_
  refine ql (.bool false) (by kernel_rfl) (by kernel_rfl) ?_
  refine wpList_nil ?_
  refine x_then ?_
  refine wp_cond_false (by kernel_rfl) ?_
  refine wp_seq ?_
  refine wp_region_lit ?_
  refine ql (.pointer (some ⟨g, 0, none⟩)) (by kernel_rfl) (R_load (p := ⟨g1, 0, none⟩) (by kernel_rfl) (by kernel_rfl) (by kernel_rfl) (HS.cell (i := 0) (j := 0) rfl rfl)) ?_
  refine ql (.pointer (some ⟨g, 0, none⟩)) (by kernel_rfl) (by kernel_rfl) ?_
  refine ql (.pointer (some ⟨g, 1, none⟩)) (by kernel_rfl) (by kernel_rfl) ?_
  refine ql (.pointer none) (by kernel_rfl) (R_load (p := ⟨g, 1, none⟩) (by kernel_rfl) (by kernel_rfl) (by kernel_rfl) (HS.cell (i := 1) (j := 1) rfl rfl)) ?_
  refine ql (.bool false) (by kernel_rfl) (by kernel_rfl) ?_
  refine ql (.bool false) (by kernel_rfl) (by kernel_rfl) ?_
  refine qln (by kernel_rfl) ?_
  refine qln (by kernel_rfl) ?_
  refine qln (by kernel_rfl) ?_
  refine qln (by kernel_rfl) ?_
  refine qln (by kernel_rfl) ?_
  refine ql (.bool false) (by kernel_rfl) (by kernel_rfl) ?_
  refine ql (.bool false) (by kernel_rfl) (by kernel_rfl) ?_
  refine wpList_nil ?_
  refine x_then ?_
  refine wp_cond_false (by kernel_rfl) ?_
  refine wp_seq ?_
  refine wp_region_lit ?_
  refine ql (.pointer (some ⟨g, 0, none⟩)) (by kernel_rfl) (R_load (p := ⟨g1, 0, none⟩) (by kernel_rfl) (by kernel_rfl) (by kernel_rfl) (HS.cell (i := 0) (j := 0) rfl rfl)) ?_
  refine ql (.pointer (some ⟨g, 0, none⟩)) (by kernel_rfl) (by kernel_rfl) ?_
  refine ql (.pointer (some ⟨g, 1, none⟩)) (by kernel_rfl) (by kernel_rfl) ?_
  refine ql (.pointer none) (by kernel_rfl) (R_load (p := ⟨g, 1, none⟩) (by kernel_rfl) (by kernel_rfl) (by kernel_rfl) (HS.cell (i := 1) (j := 1) rfl rfl)) ?_
  refine ql (.bool true) (by kernel_rfl) (by kernel_rfl) ?_
  refine ql (.bool true) (by kernel_rfl) (by kernel_rfl) ?_
  refine ql (.pointer (some ⟨h, 0, none⟩)) (by kernel_rfl) (by kernel_rfl) ?_
  refine ql (.pointer (some ⟨h, 0, none⟩)) (by kernel_rfl) (by kernel_rfl) ?_
  refine ql (.pointer (some ⟨h, 1, none⟩)) (by kernel_rfl) (by kernel_rfl) ?_
  refine ql (.pointer none) (by kernel_rfl) (R_load (p := ⟨h, 1, none⟩) (by kernel_rfl) (by kernel_rfl) (by kernel_rfl) (HS.cell (i := 4) (j := 1) rfl rfl)) ?_
  refine ql (.bool true) (by kernel_rfl) (by kernel_rfl) ?_
  refine ql (.bool true) (by kernel_rfl) (by kernel_rfl) ?_
  refine ql (.bool true) (by kernel_rfl) (by kernel_rfl) ?_
  refine wpList_nil ?_
  refine x_then ?_
  refine wp_cond_true (by kernel_rfl) ?_
  refine wp_seq ?_
  replace HS : St W M_ W3 [blk q [.slice A L.length c] 74, row A L.length c (ci .i32 L) 21 1, blk q2 [.slice B M.length c2] 74, row B M.length c2 (ci .i32 M) 21 1, blk g1 [.pointer (some ⟨g, 0, none⟩)] 24, blk g [.pointer (some ⟨q, 0, none⟩), .pointer none, .int .i64 n] 53, blk h [.pointer (some ⟨q2, 0, none⟩), .pointer none, .int .i64 n] 53] := HS.perm (perm_ [2, 3, 5, 6, 0, 1, 4] (by kernel_rfl) rfl)
  refine rg_still HS 8 (by kernel_rfl) (by kernel_rfl) ?_
  intro W4 H_ HK_
  simp only [List.take_succ_cons, List.take_zero, List.drop_succ_cons, List.drop_zero]
  replace HS : St W M_ W4 [blk q [.slice A L.length c] 74, row A L.length c (ci .i32 L) 21 1, blk q2 [.slice B M.length c2] 74, row B M.length c2 (ci .i32 M) 21 1, blk g1 [.pointer (some ⟨g, 0, none⟩)] 24, blk g [.pointer (some ⟨q, 0, none⟩), .pointer none, .int .i64 n] 53, blk h [.pointer (some ⟨q2, 0, none⟩), .pointer none, .int .i64 n] 53] := H_
  clear H_
  clear HK_
  refine qs (.pointer (some ⟨g, 0, none⟩)) (by kernel_rfl) (R_load (p := ⟨g1, 0, none⟩) (by kernel_rfl) (by kernel_rfl) (by kernel_rfl) (HS.cell (i := 4) (j := 0) rfl rfl)) ?_
  refine qs (.pointer (some ⟨g, 0, none⟩)) (by kernel_rfl) (by kernel_rfl) ?_
  refine qs (.pointer (some ⟨g, 0, none⟩)) (by kernel_rfl) (by kernel_rfl) ?_
  refine qs (.pointer (some ⟨q, 0, none⟩)) (by kernel_rfl) (R_load (p := ⟨g, 0, none⟩) (by kernel_rfl) (by kernel_rfl) (by kernel_rfl) (HS.cell (i := 5) (j := 0) rfl rfl)) ?_
  refine qs (.pointer (some ⟨h, 0, none⟩)) (by kernel_rfl) (by kernel_rfl) ?_
  refine qs (.pointer (some ⟨h, 0, none⟩)) (by kernel_rfl) (by kernel_rfl) ?_
  refine qs (.pointer (some ⟨h, 0, none⟩)) (by kernel_rfl) (by kernel_rfl) ?_
  refine qs (.pointer (some ⟨q2, 0, none⟩)) (by kernel_rfl) (R_load (p := ⟨h, 0, none⟩) (by kernel_rfl) (by kernel_rfl) (by kernel_rfl) (HS.cell (i := 6) (j := 0) rfl rfl)) ?_
  refine wpStill_nil ?_
  refine qc (f := 41) (args := #[.pointer (some ⟨q, 0, none⟩), .pointer (some ⟨q2, 0, none⟩)]) (by kernel_rfl) (R_call #[.pointer (some ⟨q, 0, none⟩), .pointer (some ⟨q2, 0, none⟩)] Tryd.func41 (by kernel_rfl) (by kernel_rfl) (by kernel_rfl)) ?_
  have hulA5 := uni_len M L
  refine (sor q c A L q2 c2 B M _ _ (St.focus (F := [blk q [.slice A L.length c] 74, row A L.length c (ci .i32 L) 21 1, blk q2 [.slice B M.length c2] 74, row B M.length c2 (ci .i32 M) 21 1]) HS) hs (by omega) hs2 (by omega)).mono ?_
  rintro e W7 ⟨A5, c6, rfl, H_⟩
  refine ⟨_, rfl, ?_⟩
  replace HS : St W M_ W7 [blk q [.slice A5 ((uni L M).length) c6] 74, row A5 ((uni L M).length) c6 (ci .i32 (uni L M)) 21 1, blk q2 [.slice B M.length c2] 74, row B M.length c2 (ci .i32 M) 21 1, blk g1 [.pointer (some ⟨g, 0, none⟩)] 24, blk g [.pointer (some ⟨q, 0, none⟩), .pointer none, .int .i64 n] 53, blk h [.pointer (some ⟨q2, 0, none⟩), .pointer none, .int .i64 n] 53] := HS.join (F := [blk q [.slice A L.length c] 74, row A L.length c (ci .i32 L) 21 1, blk q2 [.slice B M.length c2] 74, row B M.length c2 (ci .i32 M) 21 1]) (G := [blk q [.slice A5 ((uni L M).length) c6] 74, row A5 ((uni L M).length) c6 (ci .i32 (uni L M)) 21 1, blk q2 [.slice B M.length c2] 74, row B M.length c2 (ci .i32 M) 21 1]) H_
  clear H_
  refine ql (.bool (newB L M)) (by kernel_rfl) (by kernel_rfl) ?_
  refine wpList_nil ?_
  refine x_then ?_
  refine wp_seq ?_
  refine wp_region_lit ?_
  refine ql (.pointer (some ⟨g, 0, none⟩)) (by kernel_rfl) (R_load (p := ⟨g1, 0, none⟩) (by kernel_rfl) (by kernel_rfl) (by kernel_rfl) (HS.cell (i := 4) (j := 0) rfl rfl)) ?_
  refine qc (f := 32) (args := #[.pointer (some ⟨g, 0, none⟩)]) (by kernel_rfl) (R_call #[.pointer (some ⟨g, 0, none⟩)] Tryd.func32 (by kernel_rfl) (by kernel_rfl) (by kernel_rfl)) ?_
  replace HS : St W M_ W7 [blk g [.pointer (some ⟨q, 0, none⟩), .pointer none, .int .i64 n] 53, blk q [.slice A5 ((uni L M).length) c6] 74, row A5 ((uni L M).length) c6 (ci .i32 (uni L M)) 21 1, blk q2 [.slice B M.length c2] 74, row B M.length c2 (ci .i32 M) 21 1, blk g1 [.pointer (some ⟨g, 0, none⟩)] 24, blk h [.pointer (some ⟨q2, 0, none⟩), .pointer none, .int .i64 n] 53] := HS.perm (perm_ [5, 0, 1, 2, 3, 4, 6] (by kernel_rfl) rfl)
  refine (mwid_few g q c6 A5 n (uni L M) _ _ (St.focus (F := [blk g [.pointer (some ⟨q, 0, none⟩), .pointer none, .int .i64 n] 53, blk q [.slice A5 ((uni L M).length) c6] 74, row A5 ((uni L M).length) c6 (ci .i32 (uni L M)) 21 1]) HS) (hs.uni_ hs2) hlu h0 hn (by omega)).mono ?_
  rintro e W11 ⟨x8, rfl, H_, hok9, hb10⟩
  refine ⟨_, rfl, ?_⟩
  replace HS : St W M_ W11 [many (mxE 53 74 21 62 63 g n (uni L M) x8), blk q2 [.slice B M.length c2] 74, row B M.length c2 (ci .i32 M) 21 1, blk g1 [.pointer (some ⟨g, 0, none⟩)] 24, blk h [.pointer (some ⟨q2, 0, none⟩), .pointer none, .int .i64 n] 53] := HS.join (F := [blk g [.pointer (some ⟨q, 0, none⟩), .pointer none, .int .i64 n] 53, blk q [.slice A5 ((uni L M).length) c6] 74, row A5 ((uni L M).length) c6 (ci .i32 (uni L M)) 21 1]) (G := [many (mxE 53 74 21 62 63 g n (uni L M) x8)]) H_
  clear H_
  refine wpList_nil ?_
  refine x_then ?_
  refine wp_seq ?_
  refine wp_region_lit ?_
  refine ql (.bool (newB L M)) (by kernel_rfl) (by kernel_rfl) ?_
  refine ql (.bool (newB L M)) (by kernel_rfl) (by kernel_rfl) ?_
  refine wpList_nil ?_
  refine x_then ?_
  refine wp_ret ?_
  refine x_inbR ?_
  refine x_thenR ?_
  refine retM_ (.bool (newB L M)) (by kernel_rfl) ?_
  replace HS : St W M_ W11 [many (mxE 53 74 21 62 63 g n (uni L M) x8), blk h [.pointer (some ⟨q2, 0, none⟩), .pointer none, .int .i64 n] 53, blk q2 [.slice B M.length c2] 74, row B M.length c2 (ci .i32 M) 21 1] := St.tail (F := [blk g1 [.pointer (some ⟨g, 0, none⟩)] 24]) (HS.perm (perm_ [3, 0, 4, 1, 2] (by kernel_rfl) rfl))
  exact ⟨x8, rfl, HS, hok9, hb10⟩

set_option maxRecDepth 100000 in
set_option maxHeartbeats 1000000 in
theorem mor_ne_fm (g q c : Nat) (A : Option Addr) (h d2 c2 b0 : Nat) (vs : List Int) (n m : Int) (L M : List Int) (W : World) (M_ : Nat → Prop) (HS : St W M_ W [blk g [.pointer (some ⟨q, 0, none⟩), .pointer none, .int .i64 n] 53, blk q [.slice A L.length c] 74, row A L.length c (ci .i32 L) 21 1, blk h [.pointer none, .pointer (some ⟨d2, 0, none⟩), .int .i64 m] 53, blk d2 [.slice (some ⟨b0, 0, none⟩) vs.length c2, .int .i64 m] 62, row (some ⟨b0, 0, none⟩) vs.length c2 (ci .u64 vs) 63 1]) (hne : n ≠ m) : Calls Tryd.prog 22 #[.pointer (some ⟨g, 0, none⟩), .pointer (some ⟨h, 0, none⟩)] W fun e W' => e = .returned (.bool false) ∧ St W M_ W' [blk g [.pointer (some ⟨q, 0, none⟩), .pointer none, .int .i64 n] 53, blk q [.slice A L.length c] 74, row A L.length c (ci .i32 L) 21 1, blk h [.pointer none, .pointer (some ⟨d2, 0, none⟩), .int .i64 m] 53, blk d2 [.slice (some ⟨b0, 0, none⟩) vs.length c2, .int .i64 m] 62, row (some ⟨b0, 0, none⟩) vs.length c2 (ci .u64 vs) 63 1] := by
  refine calls_enterM ((.pointer (some ⟨g, 0, none⟩)) :: (.pointer (some ⟨h, 0, none⟩)) :: undef :: undef :: undef :: undef :: undef :: undef :: undef :: undef :: undef :: undef :: undef :: undef :: undef :: undef :: undef :: undef :: undef :: undef :: undef :: undef :: undef :: undef :: undef :: undef :: undef :: undef :: undef :: undef :: undef :: undef :: undef :: undef :: undef :: undef :: undef :: undef :: undef :: undef :: undef :: undef :: undef :: undef :: undef :: undef :: undef :: undef :: undef :: undef :: undef :: undef :: undef :: undef :: undef :: undef :: undef :: undef :: undef :: undef :: undef :: undef :: undef :: undef :: undef :: undef :: undef :: undef :: undef :: undef :: undef :: undef :: undef :: undef :: undef :: undef :: undef :: undef :: undef :: undef :: undef :: undef :: undef :: undef :: undef :: undef :: undef :: undef :: undef :: undef :: undef :: undef :: undef :: undef :: undef :: undef :: undef :: undef :: undef :: undef :: undef :: undef :: undef :: undef :: undef :: undef :: undef :: undef :: undef :: undef :: undef :: undef :: undef :: undef :: undef :: undef :: undef :: undef :: undef :: undef :: undef :: undef :: undef :: undef :: undef :: undef :: undef :: undef :: undef :: []) Tryd.func22 rfl (by kernel_rfl) ?_
  refine wp_seq ?_
  refine wp_region_lit ?_
  refine kb HS [.pointer (some ⟨g, 0, none⟩)] 24 (fun g => .pointer (some ⟨g, 0, none⟩)) (by kernel_rfl) (by kernel_rfl) ?_
  intro g1 W2 H_
  replace HS : St W M_ W2 [blk g1 [.pointer (some ⟨g, 0, none⟩)] 24, blk g [.pointer (some ⟨q, 0, none⟩), .pointer none, .int .i64 n] 53, blk q [.slice A L.length c] 74, row A L.length c (ci .i32 L) 21 1, blk h [.pointer none, .pointer (some ⟨d2, 0, none⟩), .int .i64 m] 53, blk d2 [.slice (some ⟨b0, 0, none⟩) vs.length c2, .int .i64 m] 62, row (some ⟨b0, 0, none⟩) vs.length c2 (ci .u64 vs) 63 1] := H_
  clear H_
  refine ql (.bool false) (by kernel_rfl) (by kernel_rfl) ?_
  refine wpList_nil ?_
  refine x_then ?_
  refine wp_seq ?_
  refine wp_block ?_
  refine wp_seq ?_
  refine rg_still HS 17 (by kernel_rfl) (by kernel_rfl) ?_
  intro W3 H_ HK_
  simp only [List.take_succ_cons, List.take_zero, List.drop_succ_cons, List.drop_zero]
  replace HS : St W M_ W3 [blk g1 [.pointer (some ⟨g, 0, none⟩)] 24, blk g [.pointer (some ⟨q, 0, none⟩), .pointer none, .int .i64 n] 53, blk q [.slice A L.length c] 74, row A L.length c (ci .i32 L) 21 1, blk h [.pointer none, .pointer (some ⟨d2, 0, none⟩), .int .i64 m] 53, blk d2 [.slice (some ⟨b0, 0, none⟩) vs.length c2, .int .i64 m] 62, row (some ⟨b0, 0, none⟩) vs.length c2 (ci .u64 vs) 63 1] := H_
  clear H_
  clear HK_
  refine qs (.pointer (some ⟨g, 0, none⟩)) (by kernel_rfl) (R_load (p := ⟨g1, 0, none⟩) (by kernel_rfl) (by kernel_rfl) (by kernel_rfl) (HS.cell (i := 0) (j := 0) rfl rfl)) ?_
  refine qs (.bool false) (by kernel_rfl) (by kernel_rfl) ?_
  refine qs (.bool false) (by kernel_rfl) (by kernel_rfl) ?_
  refine qs (.pointer (some ⟨h, 0, none⟩)) (by kernel_rfl) (by kernel_rfl) ?_
  refine qs (.bool false) (by kernel_rfl) (by kernel_rfl) ?_
  refine qs (.bool false) (by kernel_rfl) (by kernel_rfl) ?_
  refine qs (.bool false) (by kernel_rfl) (by kernel_rfl) ?_
  refine qs (.pointer (some ⟨g, 0, none⟩)) (by kernel_rfl) (R_load (p := ⟨g1, 0, none⟩) (by kernel_rfl) (by kernel_rfl) (by kernel_rfl) (HS.cell (i := 0) (j := 0) rfl rfl)) ?_
  refine qs (.pointer (some ⟨g, 0, none⟩)) (by kernel_rfl) (by kernel_rfl) ?_
  refine qs (.pointer (some ⟨g, 2, none⟩)) (by kernel_rfl) (by kernel_rfl) ?_
  refine qs (.int .i64 n) (by kernel_rfl) (R_load (p := ⟨g, 2, none⟩) (by kernel_rfl) (by kernel_rfl) (by kernel_rfl) (HS.cell (i := 1) (j := 2) rfl rfl)) ?_
  refine qs (.pointer (some ⟨h, 0, none⟩)) (by kernel_rfl) (by kernel_rfl) ?_
  refine qs (.pointer (some ⟨h, 0, none⟩)) (by kernel_rfl) (by kernel_rfl) ?_
  refine qs (.pointer (some ⟨h, 2, none⟩)) (by kernel_rfl) (by kernel_rfl) ?_
  refine qs (.int .i64 m) (by kernel_rfl) (R_load (p := ⟨h, 2, none⟩) (by kernel_rfl) (by kernel_rfl) (by kernel_rfl) (HS.cell (i := 4) (j := 2) rfl rfl)) ?_
  refine qs (.bool true) (by kernel_rfl) (R_beq (b := (n != m)) (by kernel_rfl) (bne_t (by omega))) ?_
  refine qs (.bool true) (by kernel_rfl) (by kernel_rfl) ?_
  refine wpStill_nil ?_
  refine ql (.bool true) (by kernel_rfl) (by kernel_rfl) ?_
  refine wpList_nil ?_
  refine x_then ?_
  refine wp_cond_true (by kernel_rfl) ?_
  refine wp_seq ?_
  refine wp_region_lit ?_
  refine ql (.bool false) (by kernel_rfl) (by kernel_rfl) ?_
  refine wpList_nil ?_
  refine x_then ?_
  refine wp_ret ?_
  refine x_inbR ?_
  refine x_thenR ?_
  refine retM_ (.bool false) (by kernel_rfl) ?_
  replace HS := HS.drop1
  exact ⟨rfl, HS⟩

set_option maxRecDepth 100000 in
set_option maxHeartbeats 1000000 in
theorem mor_eq_fm (g q c : Nat) (A : Option Addr) (h d2 c2 b0 : Nat) (vs : List Int) (n : Int) (L M : List Int) (W : World) (M_ : Nat → Prop) (HS : St W M_ W [blk g [.pointer (some ⟨q, 0, none⟩), .pointer none, .int .i64 n] 53, blk q [.slice A L.length c] 74, row A L.length c (ci .i32 L) 21 1, blk h [.pointer none, .pointer (some ⟨d2, 0, none⟩), .int .i64 n] 53, blk d2 [.slice (some ⟨b0, 0, none⟩) vs.length c2, .int .i64 n] 62, row (some ⟨b0, 0, none⟩) vs.length c2 (ci .u64 vs) 63 1]) (hs : S31 L) (hlim : ∀ x ∈ L, x < n) (hl : L.length ≤ 8) (hM : Rep vs n M) (h0 : 0 ≤ n) (hn : n ≤ 1048576) (hnp2 : 0 < n) : Calls Tryd.prog 22 #[.pointer (some ⟨g, 0, none⟩), .pointer (some ⟨h, 0, none⟩)] W fun e W' => ∃ x', e = .returned (.bool (newB L M)) ∧ St W M_ W' (many (mxE 53 74 21 62 63 g n (uni L M) x') :: [blk h [.pointer none, .pointer (some ⟨d2, 0, none⟩), .int .i64 n] 53, blk d2 [.slice (some ⟨b0, 0, none⟩) vs.length c2, .int .i64 n] 62, row (some ⟨b0, 0, none⟩) vs.length c2 (ci .u64 vs) 63 1]) ∧ x'.ok n (uni L M) ∧ x'.b = true := by
  refine calls_enterM ((.pointer (some ⟨g, 0, none⟩)) :: (.pointer (some ⟨h, 0, none⟩)) :: undef :: undef :: undef :: undef :: undef :: undef :: undef :: undef :: undef :: undef :: undef :: undef :: undef :: undef :: undef :: undef :: undef :: undef :: undef :: undef :: undef :: undef :: undef :: undef :: undef :: undef :: undef :: undef :: undef :: undef :: undef :: undef :: undef :: undef :: undef :: undef :: undef :: undef :: undef :: undef :: undef :: undef :: undef :: undef :: undef :: undef :: undef :: undef :: undef :: undef :: undef :: undef :: undef :: undef :: undef :: undef :: undef :: undef :: undef :: undef :: undef :: undef :: undef :: undef :: undef :: undef :: undef :: undef :: undef :: undef :: undef :: undef :: undef :: undef :: undef :: undef :: undef :: undef :: undef :: undef :: undef :: undef :: undef :: undef :: undef :: undef :: undef :: undef :: undef :: undef :: undef :: undef :: undef :: undef :: undef :: undef :: undef :: undef :: undef :: undef :: undef :: undef :: undef :: undef :: undef :: undef :: undef :: undef :: undef :: undef :: undef :: undef :: undef :: undef :: undef :: undef :: undef :: undef :: undef :: undef :: undef :: undef :: undef :: undef :: undef :: undef :: undef :: []) Tryd.func22 rfl (by kernel_rfl) ?_
  refine wp_seq ?_
  refine wp_region_lit ?_
  refine kb HS [.pointer (some ⟨g, 0, none⟩)] 24 (fun g => .pointer (some ⟨g, 0, none⟩)) (by kernel_rfl) (by kernel_rfl) ?_
  intro g1 W2 H_
  replace HS : St W M_ W2 [blk g1 [.pointer (some ⟨g, 0, none⟩)] 24, blk g [.pointer (some ⟨q, 0, none⟩), .pointer none, .int .i64 n] 53, blk q [.slice A L.length c] 74, row A L.length c (ci .i32 L) 21 1, blk h [.pointer none, .pointer (some ⟨d2, 0, none⟩), .int .i64 n] 53, blk d2 [.slice (some ⟨b0, 0, none⟩) vs.length c2, .int .i64 n] 62, row (some ⟨b0, 0, none⟩) vs.length c2 (ci .u64 vs) 63 1] := H_
  clear H_
  refine ql (.bool false) (by kernel_rfl) (by kernel_rfl) ?_
  refine wpList_nil ?_
  refine x_then ?_
  refine wp_seq ?_
  refine wp_block ?_
  refine wp_seq ?_
  refine rg_still HS 17 (by kernel_rfl) (by kernel_rfl) ?_
  intro W3 H_ HK_
  simp only [List.take_succ_cons, List.take_zero, List.drop_succ_cons, List.drop_zero]
  replace HS : St W M_ W3 [blk g1 [.pointer (some ⟨g, 0, none⟩)] 24, blk g [.pointer (some ⟨q, 0, none⟩), .pointer none, .int .i64 n] 53, blk q [.slice A L.length c] 74, row A L.length c (ci .i32 L) 21 1, blk h [.pointer none, .pointer (some ⟨d2, 0, none⟩), .int .i64 n] 53, blk d2 [.slice (some ⟨b0, 0, none⟩) vs.length c2, .int .i64 n] 62, row (some ⟨b0, 0, none⟩) vs.length c2 (ci .u64 vs) 63 1] := H_
  clear H_
  clear HK_
  refine qs (.pointer (some ⟨g, 0, none⟩)) (by kernel_rfl) (R_load (p := ⟨g1, 0, none⟩) (by kernel_rfl) (by kernel_rfl) (by kernel_rfl) (HS.cell (i := 0) (j := 0) rfl rfl)) ?_
  refine qs (.bool false) (by kernel_rfl) (by kernel_rfl) ?_
  refine qs (.bool false) (by kernel_rfl) (by kernel_rfl) ?_
  refine qs (.pointer (some ⟨h, 0, none⟩)) (by kernel_rfl) (by kernel_rfl) ?_
  refine qs (.bool false) (by kernel_rfl) (by kernel_rfl) ?_
  refine qs (.bool false) (by kernel_rfl) (by kernel_rfl) ?_
  refine qs (.bool false) (by kernel_rfl) (by kernel_rfl) ?_
  refine qs (.pointer (some ⟨g, 0, none⟩)) (by kernel_rfl) (R_load (p := ⟨g1, 0, none⟩) (by kernel_rfl) (by kernel_rfl) (by kernel_rfl) (HS.cell (i := 0) (j := 0) rfl rfl)) ?_
  refine qs (.pointer (some ⟨g, 0, none⟩)) (by kernel_rfl) (by kernel_rfl) ?_
  refine qs (.pointer (some ⟨g, 2, none⟩)) (by kernel_rfl) (by kernel_rfl) ?_
  refine qs (.int .i64 n) (by kernel_rfl) (R_load (p := ⟨g, 2, none⟩) (by kernel_rfl) (by kernel_rfl) (by kernel_rfl) (HS.cell (i := 1) (j := 2) rfl rfl)) ?_
  refine qs (.pointer (some ⟨h, 0, none⟩)) (by kernel_rfl) (by kernel_rfl) ?_
  refine qs (.pointer (some ⟨h, 0, none⟩)) (by kernel_rfl) (by kernel_rfl) ?_
  refine qs (.pointer (some ⟨h, 2, none⟩)) (by kernel_rfl) (by kernel_rfl) ?_
  refine qs (.int .i64 n) (by kernel_rfl) (R_load (p := ⟨h, 2, none⟩) (by kernel_rfl) (by kernel_rfl) (by kernel_rfl) (HS.cell (i := 4) (j := 2) rfl rfl)) ?_
  refine qs (.bool false) (by kernel_rfl) (R_beq (b := (n != n)) (by kernel_rfl) (bne_f (by omega))) ?_
  refine qs (.bool false) (by kernel_rfl) (by kernel_rfl) ?_
  refine wpStill_nil ?_
  refine ql (.bool false) (by kernel_rfl) (by kernel_rfl) ?_
  refine wpList_nil ?_
  refine x_then ?_
  refine wp_cond_false (by kernel_rfl) ?_
  refine wp_seq ?_
  refine wp_region_lit ?_
  refine ql (.pointer (some ⟨g, 0, none⟩)) (by kernel_rfl) (R_load (p := ⟨g1, 0, none⟩) (by kernel_rfl) (by kernel_rfl) (by kernel_rfl) (HS.cell (i := 0) (j := 0) rfl rfl)) ?_
  refine ql (.pointer (some ⟨g, 0, none⟩)) (by kernel_rfl) (by kernel_rfl) ?_
  refine ql (.pointer (some ⟨g, 1, none⟩)) (by kernel_rfl) (by kernel_rfl) ?_
  refine ql (.pointer none) (by kernel_rfl) (R_load (p := ⟨g, 1, none⟩) (by kernel_rfl) (by kernel_rfl) (by kernel_rfl) (HS.cell (i := 1) (j := 1) rfl rfl)) ?_
  refine ql (.bool false) (by kernel_rfl) (by kernel_rfl) ?_
  refine ql (.bool false) (by kernel_rfl) (by kernel_rfl) ?_
  refine qln (by kernel_rfl) ?_
  refine qln (by kernel_rfl) ?_
  refine qln (by kernel_rfl) ?_
  refine qln (by kernel_rfl) ?_
  refine qln (by kernel_rfl) ?_
  refine ql (.bool false) (by kernel_rfl) (by kernel_rfl) ?_
  refine ql (.bool false) (by kernel_rfl) (by kernel_rfl) ?_
  refine wpList_nil ?_
  refine x_then ?_
  refine wp_cond_false (by kernel_rfl) ?_
  refine wp_seq ?_
  refine wp_region_lit ?_
  refine ql (.pointer (some ⟨g, 0, none⟩)) (by kernel_rfl) (R_load (p := ⟨g1, 0, none⟩) (by kernel_rfl) (by kernel_rfl) (by kernel_rfl) (HS.cell (i := 0) (j := 0) rfl rfl)) ?_
  refine ql (.pointer (some ⟨g, 0, none⟩)) (by kernel_rfl) (by kernel_rfl) ?_
  refine ql (.pointer (some ⟨g, 1, none⟩)) (by kernel_rfl) (by kernel_rfl) ?_
  refine ql (.pointer none) (by kernel_rfl) (R_load (p := ⟨g, 1, none⟩) (by kernel_rfl) (by kernel_rfl) (by kernel_rfl) (HS.cell (i := 1) (j := 1) rfl rfl)) ?_
  refine ql (.bool true) (by kernel_rfl) (by kernel_rfl) ?_
  refine ql (.bool true) (by kernel_rfl) (by kernel_rfl) ?_
  refine ql (.pointer (some ⟨h, 0, none⟩)) (by kernel_rfl) (by kernel_rfl) ?_
  refine ql (.pointer (some ⟨h, 0, none⟩)) (by kernel_rfl) (by kernel_rfl) ?_
  refine ql (.pointer (some ⟨h, 1, none⟩)) (by kernel_rfl) (by kernel_rfl) ?_
  refine ql (.pointer (some ⟨d2, 0, none⟩)) (by kernel_rfl) (R_load (p := ⟨h, 1, none⟩) (by kernel_rfl) (by kernel_rfl) (by kernel_rfl) (HS.cell (i := 4) (j := 1) rfl rfl)) ?_
  refine ql (.bool false) (by kernel_rfl) (by kernel_rfl) ?_
  refine ql (.bool false) (by kernel_rfl) (by kernel_rfl) ?_
  refine ql (.bool false) (by kernel_rfl) (by kernel_rfl) ?_
  refine wpList_nil ?_
  refine x_then ?_
  refine wp_cond_false (by kernel_rfl) ?_
  refine wp_seq ?_
  refine wp_region_lit ?_
  refine ql (.pointer (some ⟨g, 0, none⟩)) (by kernel_rfl) (R_load (p := ⟨g1, 0, none⟩) (by kernel_rfl) (by kernel_rfl) (by kernel_rfl) (HS.cell (i := 0) (j := 0) rfl rfl)) ?_
  refine ql (.pointer (some ⟨g, 0, none⟩)) (by kernel_rfl) (by kernel_rfl) ?_
  refine ql (.pointer (some ⟨g, 1, none⟩)) (by kernel_rfl) (by kernel_rfl) ?_
  refine ql (.pointer none) (by kernel_rfl) (R_load (p := ⟨g, 1, none⟩) (by kernel_rfl) (by kernel_rfl) (by kernel_rfl) (HS.cell (i := 1) (j := 1) rfl rfl)) ?_
  refine ql (.bool true) (by kernel_rfl) (by kernel_rfl) ?_
  refine ql (.bool true) (by kernel_rfl) (by kernel_rfl) ?_
  refine wpList_nil ?_
  refine x_then ?_
  refine wp_cond_true (by kernel_rfl) ?_
  refine wp_seq ?_
  refine wp_region_lit ?_
  refine ql (.pointer (some ⟨g, 0, none⟩)) (by kernel_rfl) (R_load (p := ⟨g1, 0, none⟩) (by kernel_rfl) (by kernel_rfl) (by kernel_rfl) (HS.cell (i := 0) (j := 0) rfl rfl)) ?_
  refine ql (.pointer (some ⟨g, 0, none⟩)) (by kernel_rfl) (by kernel_rfl) ?_
  refine ql (.pointer (some ⟨g, 0, none⟩)) (by kernel_rfl) (by kernel_rfl) ?_
  refine ql (.pointer (some ⟨q, 0, none⟩)) (by kernel_rfl) (R_load (p := ⟨g, 0, none⟩) (by kernel_rfl) (by kernel_rfl) (by kernel_rfl) (HS.cell (i := 1) (j := 0) rfl rfl)) ?_
  refine ql (.pointer (some ⟨q, 0, none⟩)) (by kernel_rfl) (by kernel_rfl) ?_
  refine wpList_nil ?_
  refine x_then ?_
  refine wp_seq ?_
  replace HS : St W M_ W3 [blk g [.pointer (some ⟨q, 0, none⟩), .pointer none, .int .i64 n] 53, blk g1 [.pointer (some ⟨g, 0, none⟩)] 24, blk q [.slice A L.length c] 74, row A L.length c (ci .i32 L) 21 1, blk h [.pointer none, .pointer (some ⟨d2, 0, none⟩), .int .i64 n] 53, blk d2 [.slice (some ⟨b0, 0, none⟩) vs.length c2, .int .i64 n] 62, row (some ⟨b0, 0, none⟩) vs.length c2 (ci .u64 vs) 63 1] := HS.perm (perm_ [1, 0, 2, 3, 4, 5, 6] (by kernel_rfl) rfl)
  refine t_start HS (fun k_ => (blk g [.pointer (some ⟨q, 0, none⟩), .pointer none, .int .i64 n] 53).own k_) 13 (by kernel_rfl) rfl ?_
  intro W4 H_ HD_
  clear HD_
  replace HS : St W M_ W4 [blk g [.pointer (some ⟨q, 0, none⟩), .pointer none, .int .i64 n] 53, blk g1 [.pointer (some ⟨g, 0, none⟩)] 24, blk q [.slice A L.length c] 74, row A L.length c (ci .i32 L) 21 1, blk h [.pointer none, .pointer (some ⟨d2, 0, none⟩), .int .i64 n] 53, blk d2 [.slice (some ⟨b0, 0, none⟩) vs.length c2, .int .i64 n] 62, row (some ⟨b0, 0, none⟩) vs.length c2 (ci .u64 vs) 63 1] := H_
  clear H_
  have HV := HS
  have HK := Kpt.refl (fun k_ => (blk g [.pointer (some ⟨q, 0, none⟩), .pointer none, .int .i64 n] 53).own k_) W4
  refine t_q (n := 12) 0 (.pointer (some ⟨g, 0, none⟩)) rfl (by kernel_rfl) (by kernel_rfl) (fun _ _ _ h => h) (fun w' hk => (R_load (p := ⟨g1, 0, none⟩) (by kernel_rfl) (by kernel_rfl) (by kernel_rfl) (hk.cellN (HV.sepB (a := 1) (b := 0) (by decide) rfl rfl) (HV.cell (i := 1) (j := 0) rfl rfl)))) HK ?_
  refine t_q (n := 11) 1 (.pointer (some ⟨g, 0, none⟩)) rfl (by kernel_rfl) (by kernel_rfl) (fun _ _ _ h => h) (fun w' hk => (R_load (p := ⟨g1, 0, none⟩) (by kernel_rfl) (by kernel_rfl) (by kernel_rfl) (hk.cellN (HV.sepB (a := 1) (b := 0) (by decide) rfl rfl) (HV.cell (i := 1) (j := 0) rfl rfl)))) HK ?_
  refine t_q (n := 10) 2 (.pointer (some ⟨h, 0, none⟩)) rfl (by kernel_rfl) (by kernel_rfl) (fun _ _ _ h => h) (fun w' hk => (by kernel_rfl)) HK ?_
  refine t_q (n := 9) 3 (.pointer (some ⟨h, 0, none⟩)) rfl (by kernel_rfl) (by kernel_rfl) (fun _ _ _ h => h) (fun w' hk => (by kernel_rfl)) HK ?_
  refine t_q (n := 8) 4 (.pointer (some ⟨h, 1, none⟩)) rfl (by kernel_rfl) (by kernel_rfl) (fun _ _ _ h => h) (fun w' hk => (by kernel_rfl)) HK ?_
  refine t_q (n := 7) 5 (.pointer (some ⟨d2, 0, none⟩)) rfl (by kernel_rfl) (by kernel_rfl) (fun _ _ _ h => h) (fun w' hk => (R_load (p := ⟨h, 1, none⟩) (by kernel_rfl) (by kernel_rfl) (by kernel_rfl) (hk.cellN (HV.sepB (a := 4) (b := 0) (by decide) rfl rfl) (HV.cell (i := 4) (j := 1) rfl rfl)))) HK ?_
  refine t_c (n := 6) 6 (f := 42) (args := #[.pointer (some ⟨d2, 0, none⟩)]) rfl (by kernel_rfl) (by kernel_rfl) (R_call #[.pointer (some ⟨d2, 0, none⟩)] Tryd.func42 (by kernel_rfl) (by kernel_rfl) (by kernel_rfl)) ?_
  refine (dclone d2 c2 ⟨b0, 0, none⟩ vs n M _ (HS.cell (i := 5) (j := 0) rfl rfl) (HS.cell (i := 5) (j := 1) rfl rfl) (Rd.row HS (i := 6) rfl) hM hn).mono ?_
  rintro e W5 ⟨d9, A9, c9, rfl, H_⟩
  refine ⟨_, rfl, HK.tr H_.kept.nil, ?_⟩
  replace HK := HK.tr H_.kept.nil
  replace HS : St W M_ W5 [blk d9 [.slice A9 vs.length c9, .int .i64 n] 62, row A9 vs.length c9 (ci .u64 vs) 63 1, blk g [.pointer (some ⟨q, 0, none⟩), .pointer none, .int .i64 n] 53, blk g1 [.pointer (some ⟨g, 0, none⟩)] 24, blk q [.slice A L.length c] 74, row A L.length c (ci .i32 L) 21 1, blk h [.pointer none, .pointer (some ⟨d2, 0, none⟩), .int .i64 n] 53, blk d2 [.slice (some ⟨b0, 0, none⟩) vs.length c2, .int .i64 n] 62, row (some ⟨b0, 0, none⟩) vs.length c2 (ci .u64 vs) 63 1] := HS.join (F := []) (G := [blk d9 [.slice A9 vs.length c9, .int .i64 n] 62, row A9 vs.length c9 (ci .u64 vs) 63 1]) H_
  clear H_
  refine t_q (n := 5) 7 (.pointer (some ⟨g, 0, none⟩)) rfl (by kernel_rfl) (by kernel_rfl) (fun _ _ _ h => h) (fun w' hk => (by kernel_rfl)) HK ?_
  refine t_q (n := 4) 8 (.pointer (some ⟨g, 1, none⟩)) rfl (by kernel_rfl) (by kernel_rfl) (fun _ _ _ h => h) (fun w' hk => (by kernel_rfl)) HK ?_
  obtain ⟨W6, hrun_, H_, hk_⟩ := ex_ks (P := Tryd.prog) (ty := 0) (ps := "mixed.go:94") (af := #[{ on := 8, ground := Go.Ground.data }, { on := 6, ground := Go.Ground.data }, { on := 6, ground := Go.Ground.chain }, { on := 0, ground := Go.Ground.phase }, { on := 1, ground := (Go.Ground.textOnly Go.Departure.lateStores) }, { on := 2, ground := Go.Ground.phase }, { on := 3, ground := Go.Ground.phase }, { on := 4, ground := Go.Ground.phase }, { on := 5, ground := Go.Ground.phase }, { on := 6, ground := Go.Ground.phase }]) (gd := none) (t := 40) (x := (Go.Operand.tmp 93)) (y := (Go.Operand.tmp 91)) (v := .pointer (some ⟨d9, 0, none⟩)) HS 2 rfl (1) [.pointer (some ⟨d9, 0, none⟩)] (by kernel_rfl) (by kernel_rfl) (by kernel_rfl) (by kernel_rfl) (one_ (by kernel_rfl)) (Nat.le_of_ble_eq_true rfl)
  replace HK := HK.trans hk_ (fun _ h_ => .inl (blk_own h_))
  refine t_s (n := 3) 9 rfl (by kernel_rfl) (by kernel_rfl) hrun_ HK ?_
  clear hk_ hrun_
  replace HS : St W M_ W6 [blk d9 [.slice A9 vs.length c9, .int .i64 n] 62, row A9 vs.length c9 (ci .u64 vs) 63 1, blk g [.pointer (some ⟨q, 0, none⟩), .pointer (some ⟨d9, 0, none⟩), .int .i64 n] 53, blk g1 [.pointer (some ⟨g, 0, none⟩)] 24, blk q [.slice A L.length c] 74, row A L.length c (ci .i32 L) 21 1, blk h [.pointer none, .pointer (some ⟨d2, 0, none⟩), .int .i64 n] 53, blk d2 [.slice (some ⟨b0, 0, none⟩) vs.length c2, .int .i64 n] 62, row (some ⟨b0, 0, none⟩) vs.length c2 (ci .u64 vs) 63 1] := H_
  clear H_
  refine t_q (n := 2) 10 (.pointer (some ⟨g, 0, none⟩)) rfl (by kernel_rfl) (by kernel_rfl) (fun _ _ _ h => h) (fun w' hk => (by kernel_rfl)) HK ?_
  refine t_q (n := 1) 11 (.pointer (some ⟨g, 0, none⟩)) rfl (by kernel_rfl) (by kernel_rfl) (fun _ _ _ h => h) (fun w' hk => (by kernel_rfl)) HK ?_
  obtain ⟨W7, hrun_, H_, hk_⟩ := ex_ks (P := Tryd.prog) (ty := 0) (ps := "mixed.go:94") (af := #[{ on := 11, ground := Go.Ground.data }, { on := 9, ground := Go.Ground.chain }, { on := 0, ground := Go.Ground.phase }, { on := 1, ground := Go.Ground.phase }, { on := 2, ground := Go.Ground.phase }, { on := 3, ground := Go.Ground.phase }, { on := 4, ground := Go.Ground.phase }, { on := 5, ground := Go.Ground.phase }, { on := 6, ground := Go.Ground.phase }, { on := 7, ground := Go.Ground.phase }, { on := 8, ground := Go.Ground.phase }, { on := 9, ground := Go.Ground.phase }]) (gd := none) (t := 50) (x := (Go.Operand.tmp 95)) (y := (Go.Operand.const (Go.Value.pointer none))) (v := .pointer none) HS 2 rfl (0) [.pointer none] (by kernel_rfl) (by kernel_rfl) (by kernel_rfl) (by kernel_rfl) (one_ (by kernel_rfl)) (Nat.le_of_ble_eq_true rfl)
  replace HK := HK.trans hk_ (fun _ h_ => .inl (blk_own h_))
  refine t_s (n := 0) 12 rfl (by kernel_rfl) (by kernel_rfl) hrun_ HK ?_
  clear hk_ hrun_
  replace HS : St W M_ W7 [blk d9 [.slice A9 vs.length c9, .int .i64 n] 62, row A9 vs.length c9 (ci .u64 vs) 63 1, blk g [.pointer none, .pointer (some ⟨d9, 0, none⟩), .int .i64 n] 53, blk g1 [.pointer (some ⟨g, 0, none⟩)] 24, blk q [.slice A L.length c] 74, row A L.length c (ci .i32 L) 21 1, blk h [.pointer none, .pointer (some ⟨d2, 0, none⟩), .int .i64 n] 53, blk d2 [.slice (some ⟨b0, 0, none⟩) vs.length c2, .int .i64 n] 62, row (some ⟨b0, 0, none⟩) vs.length c2 (ci .u64 vs) 63 1] := H_
  clear H_
  refine t_done (by kernel_rfl) ?_
  clear HV HK
  refine x_then ?_
  refine wp_seq ?_
  refine wp_seq ?_
  refine wp_region_lit ?_
  refine ql (.pointer (some ⟨q, 0, none⟩)) (by kernel_rfl) (by kernel_rfl) ?_
  refine qc (f := 43) (args := #[.pointer (some ⟨q, 0, none⟩)]) (by kernel_rfl) (R_call #[.pointer (some ⟨q, 0, none⟩)] Tryd.func43 (by kernel_rfl) (by kernel_rfl) (by kernel_rfl)) ?_
  refine (sall q _).mono ?_
  rintro e W9 ⟨b8, rfl, H_⟩
  refine ⟨_, rfl, ?_⟩
  replace HS : St W M_ W9 [blk b8 [.pointer (some ⟨q, 0, none⟩)] 50, blk d9 [.slice A9 vs.length c9, .int .i64 n] 62, row A9 vs.length c9 (ci .u64 vs) 63 1, blk g [.pointer none, .pointer (some ⟨d9, 0, none⟩), .int .i64 n] 53, blk g1 [.pointer (some ⟨g, 0, none⟩)] 24, blk q [.slice A L.length c] 74, row A L.length c (ci .i32 L) 21 1, blk h [.pointer none, .pointer (some ⟨d2, 0, none⟩), .int .i64 n] 53, blk d2 [.slice (some ⟨b0, 0, none⟩) vs.length c2, .int .i64 n] 62, row (some ⟨b0, 0, none⟩) vs.length c2 (ci .u64 vs) 63 1] := HS.join (F := []) (G := [blk b8 [.pointer (some ⟨q, 0, none⟩)] 50]) H_
  clear H_
  refine wpList_nil ?_
  refine x_then ?_
  refine wp_block ?_
  replace HS : St W M_ W9 [blk d9 [.slice A9 vs.length c9, .int .i64 n] 62, row A9 vs.length c9 (ci .u64 vs) 63 1, blk b8 [.pointer (some ⟨q, 0, none⟩)] 50, blk g [.pointer none, .pointer (some ⟨d9, 0, none⟩), .int .i64 n] 53, blk g1 [.pointer (some ⟨g, 0, none⟩)] 24, blk q [.slice A L.length c] 74, row A L.length c (ci .i32 L) 21 1, blk h [.pointer none, .pointer (some ⟨d2, 0, none⟩), .int .i64 n] 53, blk d2 [.slice (some ⟨b0, 0, none⟩) vs.length c2, .int .i64 n] 62, row (some ⟨b0, 0, none⟩) vs.length c2 (ci .u64 vs) 63 1] := HS.perm (perm_ [1, 2, 0, 3, 4, 5, 6, 7, 8, 9] (by kernel_rfl) rfl)
  have HDT : SpT b8 q c A L _ := ⟨HS.cell (i := 2) (j := 0) rfl rfl, HS.cell (i := 5) (j := 0) rfl rfl, Rd.row HS (i := 6) rfl⟩
  have HSb := HS
  refine rangeF (gf := 53) (lb := #[.pointer (some ⟨b8, 0, none⟩)]) (m := 0) (by kernel_rfl) (enters_of Tryd.func53 (by kernel_rfl) rfl) (sall_stops b8 q c A L _ HDT.hb HDT.h0 HDT.hr hs (by omega) 0) (fun h_ k_ => fun x_ => k_ (h_ x_)) (fun X l_ o_ o2_ _ h1_ h2_ _ => fun x_ => x_.put h1_ h2_)
    (fun pre w' => ∃ (ws_ : List Int), (Rep ws_ n (adds n M pre)) ∧ St W M_ w' [blk d9 [.slice A9 ws_.length c9, .int .i64 n] 62, row A9 ws_.length c9 (ci .u64 ws_) 63 1, blk b8 [.pointer (some ⟨q, 0, none⟩)] 50, blk g [.pointer none, .pointer (some ⟨d9, 0, none⟩), .int .i64 n] 53, blk g1 [.pointer (some ⟨g, 0, none⟩)] 24, blk q [.slice A L.length c] 74, row A L.length c (ci .i32 L) 21 1, blk h [.pointer none, .pointer (some ⟨d2, 0, none⟩), .int .i64 n] 53, blk d2 [.slice (some ⟨b0, 0, none⟩) vs.length c2, .int .i64 n] 62, row (some ⟨b0, 0, none⟩) vs.length c2 (ci .u64 vs) 63 1])
    (fun c pre w' => False)
    (fun s_ A_ B_ r_ h_ hg_ hr_ => by obtain ⟨ws_, hR9, HS⟩ := h_; exact ⟨ws_, hR9, HS.grown (cel_cons blk_cel (cel_cons row_cel (cel_cons blk_cel (cel_cons blk_cel (cel_cons blk_cel (cel_cons blk_cel (cel_cons row_cel (cel_cons blk_cel (cel_cons blk_cel (cel_cons row_cel cel_nil)))))))))) HSb.le hg_ hr_⟩)
    (fun _ _ _ _ _ h_ _ _ => h_)
    (by exact ⟨vs, hM, HS⟩)
    (fun x => ((.pointer (some ⟨g, 0, none⟩)) :: (.pointer (some ⟨h, 0, none⟩)) :: (.pointer (some ⟨g1, 0, none⟩)) :: undef :: (.bool false) :: undef :: (.pointer (some ⟨q, 0, none⟩)) :: (.int .i64 x) :: undef :: undef :: (.bool false) :: (.pointer (some ⟨g, 0, none⟩)) :: (.bool false) :: (.bool false) :: (.pointer (some ⟨h, 0, none⟩)) :: (.bool false) :: (.bool false) :: (.bool false) :: (.pointer (some ⟨g, 0, none⟩)) :: (.pointer (some ⟨g, 0, none⟩)) :: (.pointer (some ⟨g, 2, none⟩)) :: (.int .i64 n) :: (.pointer (some ⟨h, 0, none⟩)) :: (.pointer (some ⟨h, 0, none⟩)) :: (.pointer (some ⟨h, 2, none⟩)) :: (.int .i64 n) :: (.bool false) :: (.bool false) :: (.bool false) :: (.pointer (some ⟨g, 0, none⟩)) :: (.pointer (some ⟨g, 0, none⟩)) :: (.pointer (some ⟨g, 1, none⟩)) :: (.pointer none) :: (.bool false) :: (.bool false) :: undef :: undef :: undef :: undef :: undef :: (.bool false) :: undef :: undef :: undef :: undef :: undef :: undef :: undef :: undef :: undef :: (.bool false) :: (.pointer (some ⟨g, 0, none⟩)) :: (.pointer (some ⟨g, 0, none⟩)) :: (.pointer (some ⟨g, 1, none⟩)) :: (.pointer none) :: (.bool true) :: (.bool true) :: (.pointer (some ⟨h, 0, none⟩)) :: (.pointer (some ⟨h, 0, none⟩)) :: (.pointer (some ⟨h, 1, none⟩)) :: (.pointer (some ⟨d2, 0, none⟩)) :: (.bool false) :: (.bool false) :: undef :: undef :: undef :: undef :: undef :: undef :: undef :: undef :: undef :: undef :: undef :: undef :: (.bool true) :: (.pointer (some ⟨g, 0, none⟩)) :: (.pointer (some ⟨g, 0, none⟩)) :: (.pointer (some ⟨g, 1, none⟩)) :: (.pointer none) :: (.bool true) :: (.pointer (some ⟨g, 0, none⟩)) :: (.pointer (some ⟨g, 0, none⟩)) :: (.pointer (some ⟨g, 0, none⟩)) :: (.pointer (some ⟨q, 0, none⟩)) :: (.pointer (some ⟨g, 0, none⟩)) :: (.pointer (some ⟨g, 0, none⟩)) :: (.pointer (some ⟨h, 0, none⟩)) :: (.pointer (some ⟨h, 0, none⟩)) :: (.pointer (some ⟨h, 1, none⟩)) :: (.pointer (some ⟨d2, 0, none⟩)) :: (.pointer (some ⟨d9, 0, none⟩)) :: (.pointer (some ⟨g, 0, none⟩)) :: (.pointer (some ⟨g, 1, none⟩)) :: (.pointer (some ⟨g, 0, none⟩)) :: (.pointer (some ⟨g, 0, none⟩)) :: (.pointer (some ⟨q, 0, none⟩)) :: (.func (.func 53) #[] #[.pointer (some ⟨b8, 0, none⟩)]) :: (.int .i64 x) :: undef :: undef :: undef :: undef :: undef :: undef :: undef :: undef :: undef :: undef :: undef :: undef :: undef :: undef :: undef :: undef :: undef :: undef :: undef :: undef :: undef :: undef :: undef :: undef :: undef :: undef :: undef :: undef :: undef :: undef :: [])) ?_ ?_ ?_ ?_
  · intro l x W10 K_ hK_
    refine wp_region_litR (by kernel_rfl) (fun ⟨_, _, h_⟩ => (h_ : False)) ?_
    refine ql (.int .i64 x) (by kernel_rfl) (by kernel_rfl) ?_
    refine wpList_nil ?_
    refine x_then ?_
    exact kk_ (congrArg Fr (by kernel_rfl)) hK_
  · intro l pre x W10 hI_ hlt
    obtain ⟨ws_, hR9, HS⟩ := hI_
    have HO := HS
    replace HS := HO.root
    refine wpIn_block ?_
    refine wp_region_litR (by kernel_rfl) (fun ⟨_, _, h_⟩ => (h_ : False)) ?_
    refine ql (.pointer (some ⟨g, 0, none⟩)) (by kernel_rfl) (R_load (p := ⟨g1, 0, none⟩) (by kernel_rfl) (by kernel_rfl) (by kernel_rfl) (HS.cell (i := 4) (j := 0) rfl rfl)) ?_
    refine ql (.pointer (some ⟨g, 0, none⟩)) (by kernel_rfl) (by kernel_rfl) ?_
    refine ql (.pointer (some ⟨g, 1, none⟩)) (by kernel_rfl) (by kernel_rfl) ?_
    refine ql (.pointer (some ⟨d9, 0, none⟩)) (by kernel_rfl) (R_load (p := ⟨g, 1, none⟩) (by kernel_rfl) (by kernel_rfl) (by kernel_rfl) (HS.cell (i := 3) (j := 1) rfl rfl)) ?_
    refine ql (.int .i64 x) (by kernel_rfl) (by kernel_rfl) ?_
    refine qc (f := 12) (args := #[.pointer (some ⟨d9, 0, none⟩), .int .i64 x]) (by kernel_rfl) (R_call #[.pointer (some ⟨d9, 0, none⟩), .int .i64 x] Tryd.func12 (by kernel_rfl) (by kernel_rfl) (by kernel_rfl)) ?_
    refine (dadd d9 c9 A9 ws_ n (adds n M pre) x _ _ (St.focus (F := [blk d9 [.slice A9 ws_.length c9, .int .i64 n] 62, row A9 ws_.length c9 (ci .u64 ws_) 63 1]) HS) hR9 hn).mono ?_
    rintro e W13 ⟨ws11, rfl, H_, hR12⟩
    refine ⟨_, rfl, ?_⟩
    replace HS : St W10 (owns [blk d9 [.slice A9 ws_.length c9, .int .i64 n] 62, row A9 ws_.length c9 (ci .u64 ws_) 63 1, blk b8 [.pointer (some ⟨q, 0, none⟩)] 50, blk g [.pointer none, .pointer (some ⟨d9, 0, none⟩), .int .i64 n] 53, blk g1 [.pointer (some ⟨g, 0, none⟩)] 24, blk q [.slice A L.length c] 74, row A L.length c (ci .i32 L) 21 1, blk h [.pointer none, .pointer (some ⟨d2, 0, none⟩), .int .i64 n] 53, blk d2 [.slice (some ⟨b0, 0, none⟩) vs.length c2, .int .i64 n] 62, row (some ⟨b0, 0, none⟩) vs.length c2 (ci .u64 vs) 63 1]) W13 [blk d9 [.slice A9 ws11.length c9, .int .i64 n] 62, row A9 ws11.length c9 (ci .u64 ws11) 63 1, blk b8 [.pointer (some ⟨q, 0, none⟩)] 50, blk g [.pointer none, .pointer (some ⟨d9, 0, none⟩), .int .i64 n] 53, blk g1 [.pointer (some ⟨g, 0, none⟩)] 24, blk q [.slice A L.length c] 74, row A L.length c (ci .i32 L) 21 1, blk h [.pointer none, .pointer (some ⟨d2, 0, none⟩), .int .i64 n] 53, blk d2 [.slice (some ⟨b0, 0, none⟩) vs.length c2, .int .i64 n] 62, row (some ⟨b0, 0, none⟩) vs.length c2 (ci .u64 vs) 63 1] := HS.join (F := [blk d9 [.slice A9 ws_.length c9, .int .i64 n] 62, row A9 ws_.length c9 (ci .u64 ws_) 63 1]) (G := [blk d9 [.slice A9 ws11.length c9, .int .i64 n] 62, row A9 ws11.length c9 (ci .u64 ws11) 63 1]) H_
    clear H_
    refine wpList_nil ?_
    refine x_inb ?_
    have HF := HO.unroot HS
    exact og_n (HS.keepsFrom HO (cel_cons blk_cel (cel_cons row_cel (cel_cons blk_cel (cel_cons blk_cel (cel_cons blk_cel (cel_cons blk_cel (cel_cons row_cel (cel_cons blk_cel (cel_cons blk_cel (cel_cons row_cel cel_nil)))))))))) _) (fun _ => ⟨HF.cell (i := 2) (j := 0) rfl rfl, HF.cell (i := 5) (j := 0) rfl rfl, Rd.row HF (i := 6) rfl⟩) ⟨ws11, (by rw [adds_snoc]; exact hR12), HF⟩
  · intro D xs W10 hD hS hI_ hdf
    have hS : L = xs := hS.symm
    subst hS
    obtain ⟨ws_, hR9, HS⟩ := hI_
    replace HS := HS.addD (cel_cons blk_cel (cel_cons row_cel (cel_cons blk_cel (cel_cons blk_cel (cel_cons blk_cel (cel_cons blk_cel (cel_cons row_cel (cel_cons blk_cel (cel_cons blk_cel (cel_cons row_cel cel_nil)))))))))) (Nat.le_trans HSb.le hD) hdf
    refine x_inb ?_
    refine x_then ?_
    refine wp_seq ?_
    refine wp_region_lit ?_
    refine ql (.pointer (some ⟨g, 0, none⟩)) (by kernel_rfl) (R_load (p := ⟨g1, 0, none⟩) (by kernel_rfl) (by kernel_rfl) (by kernel_rfl) (HS.cell (i := 5) (j := 0) rfl rfl)) ?_
    refine ql (.pointer (some ⟨g, 0, none⟩)) (by kernel_rfl) (by kernel_rfl) ?_
    refine ql (.pointer (some ⟨g, 1, none⟩)) (by kernel_rfl) (by kernel_rfl) ?_
    refine ql (.pointer (some ⟨d9, 0, none⟩)) (by kernel_rfl) (R_load (p := ⟨g, 1, none⟩) (by kernel_rfl) (by kernel_rfl) (by kernel_rfl) (HS.cell (i := 4) (j := 1) rfl rfl)) ?_
    refine qc (f := 14) (args := #[.pointer (some ⟨d9, 0, none⟩)]) (by kernel_rfl) (R_call #[.pointer (some ⟨d9, 0, none⟩)] Tryd.func14 (by kernel_rfl) (by kernel_rfl) (by kernel_rfl)) ?_
    have hau : adds n M L = uni L M := by rw [adds_uni (fun x hx => ⟨(hs.2 x hx).1, hlim x hx⟩)]; exact uni_comm hM.srt hs.1
    rw [hau] at hR9
    have hul := uni_len M L
    have hml := inr_len hM.srt hM.lim h0
    refine (dcount d9 c9 A9 ws_ n (uni L M) _ (HS.cell (i := 1) (j := 0) rfl rfl) (HS.cell (i := 1) (j := 1) rfl rfl) (Rd.row HS (i := 2) rfl) hR9 hn).mono ?_
    rintro e W14 ⟨rfl, H_⟩
    refine ⟨_, rfl, ?_⟩
    replace HS : St W M_ W14 [dfr D, blk d9 [.slice A9 ws_.length c9, .int .i64 n] 62, row A9 ws_.length c9 (ci .u64 ws_) 63 1, blk b8 [.pointer (some ⟨q, 0, none⟩)] 50, blk g [.pointer none, .pointer (some ⟨d9, 0, none⟩), .int .i64 n] 53, blk g1 [.pointer (some ⟨g, 0, none⟩)] 24, blk q [.slice A L.length c] 74, row A L.length c (ci .i32 L) 21 1, blk h [.pointer none, .pointer (some ⟨d2, 0, none⟩), .int .i64 n] 53, blk d2 [.slice (some ⟨b0, 0, none⟩) vs.length c2, .int .i64 n] 62, row (some ⟨b0, 0, none⟩) vs.length c2 (ci .u64 vs) 63 1] := HS.join (F := []) (G := []) H_
    clear H_
    refine ql (.pointer (some ⟨q, 0, none⟩)) (by kernel_rfl) (by kernel_rfl) ?_
    refine qc (f := 34) (args := #[.pointer (some ⟨q, 0, none⟩)]) (by kernel_rfl) (R_call #[.pointer (some ⟨q, 0, none⟩)] Tryd.func34 (by kernel_rfl) (by kernel_rfl) (by kernel_rfl)) ?_
    refine (slen q c A L _ (HS.cell (i := 6) (j := 0) rfl rfl) (Rd.row HS (i := 7) rfl) hs (by omega)).mono ?_
    rintro e W15 ⟨rfl, H_⟩
    refine ⟨_, rfl, ?_⟩
    replace HS : St W M_ W15 [dfr D, blk d9 [.slice A9 ws_.length c9, .int .i64 n] 62, row A9 ws_.length c9 (ci .u64 ws_) 63 1, blk b8 [.pointer (some ⟨q, 0, none⟩)] 50, blk g [.pointer none, .pointer (some ⟨d9, 0, none⟩), .int .i64 n] 53, blk g1 [.pointer (some ⟨g, 0, none⟩)] 24, blk q [.slice A L.length c] 74, row A L.length c (ci .i32 L) 21 1, blk h [.pointer none, .pointer (some ⟨d2, 0, none⟩), .int .i64 n] 53, blk d2 [.slice (some ⟨b0, 0, none⟩) vs.length c2, .int .i64 n] 62, row (some ⟨b0, 0, none⟩) vs.length c2 (ci .u64 vs) 63 1] := HS.join (F := []) (G := []) H_
    clear H_
    by_cases hc16 : ((uni L M).length : Int) > (L.length : Int)
    · skip
      refine ql (.bool true) (by kernel_rfl) (R_bool (p := ((uni L M).length : Int) > (L.length : Int)) (by kernel_rfl) (hc16)) ?_
      refine ql (.bool true) (by kernel_rfl) (by kernel_rfl) ?_
      refine wpList_nil ?_
      refine x_then ?_
      refine wp_ret ?_
      refine x_inbR ?_
      refine x_thenR ?_
      refine retD_ HS ?_
      clear HS
      intro W17 HS
      refine ⟨.bool true, by kernel_rfl, ?_⟩
      replace HS : St W M_ W17 [blk g [.pointer none, .pointer (some ⟨d9, 0, none⟩), .int .i64 n] 53, blk d9 [.slice A9 ws_.length c9, .int .i64 n] 62, row A9 ws_.length c9 (ci .u64 ws_) 63 1, blk h [.pointer none, .pointer (some ⟨d2, 0, none⟩), .int .i64 n] 53, blk d2 [.slice (some ⟨b0, 0, none⟩) vs.length c2, .int .i64 n] 62, row (some ⟨b0, 0, none⟩) vs.length c2 (ci .u64 vs) 63 1] := St.tail (F := [blk b8 [.pointer (some ⟨q, 0, none⟩)] 50, blk g1 [.pointer (some ⟨g, 0, none⟩)] 24, blk q [.slice A L.length c] 74, row A L.length c (ci .i32 L) 21 1]) (HS.perm (perm_ [2, 4, 5, 6, 3, 0, 1, 7, 8, 9] (by kernel_rfl) rfl))
      have hb9 : newB L M = true := by rw [newB_len hM.srt]; exact decide_eq_true (by omega)
      exact ⟨.mny d9 c9 A9 ws_, by rw [hb9], St.closeA (E := [blk g [.pointer none, .pointer (some ⟨d9, 0, none⟩), .int .i64 n] 53, blk d9 [.slice A9 ws_.length c9, .int .i64 n] 62, row A9 ws_.length c9 (ci .u64 ws_) 63 1]) HS, ⟨hR9, by have := hM.n0; omega⟩, rfl⟩
    · skip
      refine ql (.bool false) (by kernel_rfl) (R_nbool (p := ((uni L M).length : Int) > (L.length : Int)) (by kernel_rfl) (hc16)) ?_
      refine ql (.bool false) (by kernel_rfl) (by kernel_rfl) ?_
      refine wpList_nil ?_
      refine x_then ?_
      refine wp_ret ?_
      refine x_inbR ?_
      refine x_thenR ?_
      refine retD_ HS ?_
      clear HS
      intro W18 HS
      refine ⟨.bool false, by kernel_rfl, ?_⟩
      replace HS : St W M_ W18 [blk g [.pointer none, .pointer (some ⟨d9, 0, none⟩), .int .i64 n] 53, blk d9 [.slice A9 ws_.length c9, .int .i64 n] 62, row A9 ws_.length c9 (ci .u64 ws_) 63 1, blk h [.pointer none, .pointer (some ⟨d2, 0, none⟩), .int .i64 n] 53, blk d2 [.slice (some ⟨b0, 0, none⟩) vs.length c2, .int .i64 n] 62, row (some ⟨b0, 0, none⟩) vs.length c2 (ci .u64 vs) 63 1] := St.tail (F := [blk b8 [.pointer (some ⟨q, 0, none⟩)] 50, blk g1 [.pointer (some ⟨g, 0, none⟩)] 24, blk q [.slice A L.length c] 74, row A L.length c (ci .i32 L) 21 1]) (HS.perm (perm_ [2, 4, 5, 6, 3, 0, 1, 7, 8, 9] (by kernel_rfl) rfl))
      have hb9 : newB L M = false := by rw [newB_len hM.srt]; exact decide_eq_false (by omega)
      exact ⟨.mny d9 c9 A9 ws_, by rw [hb9], St.closeA (E := [blk g [.pointer none, .pointer (some ⟨d9, 0, none⟩), .int .i64 n] 53, blk d9 [.slice A9 ws_.length c9, .int .i64 n] 62, row A9 ws_.length c9 (ci .u64 ws_) 63 1]) HS, ⟨hR9, by have := hM.n0; omega⟩, rfl⟩
  · intro D c pre W10 hD hSp hIx_ hdf
    exact hIx_.elim

set_option maxRecDepth 100000 in
set_option maxHeartbeats 1000000 in
theorem mor_ne_mf (g d c : Nat) (A : Option Addr) (ws : List Int) (h q2 c2 : Nat) (B : Option Addr) (n m : Int) (L M : List Int) (W : World) (M_ : Nat → Prop) (HS : St W M_ W [blk g [.pointer none, .pointer (some ⟨d, 0, none⟩), .int .i64 n] 53, blk d [.slice A ws.length c, .int .i64 n] 62, row A ws.length c (ci .u64 ws) 63 1, blk h [.pointer (some ⟨q2, 0, none⟩), .pointer none, .int .i64 m] 53, blk q2 [.slice B M.length c2] 74, row B M.length c2 (ci .i32 M) 21 1]) (hne : n ≠ m) : Calls Tryd.prog 22 #[.pointer (some ⟨g, 0, none⟩), .pointer (some ⟨h, 0, none⟩)] W fun e W' => e = .returned (.bool false) ∧ St W M_ W' [blk g [.pointer none, .pointer (some ⟨d, 0, none⟩), .int .i64 n] 53, blk d [.slice A ws.length c, .int .i64 n] 62, row A ws.length c (ci .u64 ws) 63 1, blk h [.pointer (some ⟨q2, 0, none⟩), .pointer none, .int .i64 m] 53, blk q2 [.slice B M.length c2] 74, row B M.length c2 (ci .i32 M) 21 1] := by
  refine calls_enterM ((.pointer (some ⟨g, 0, none⟩)) :: (.pointer (some ⟨h, 0, none⟩)) :: undef :: undef :: undef :: undef :: undef :: undef :: undef :: undef :: undef :: undef :: undef :: undef :: undef :: undef :: undef :: undef :: undef :: undef :: undef :: undef :: undef :: undef :: undef :: undef :: undef :: undef :: undef :: undef :: undef :: undef :: undef :: undef :: undef :: undef :: undef :: undef :: undef :: undef :: undef :: undef :: undef :: undef :: undef :: undef :: undef :: undef :: undef :: undef :: undef :: undef :: undef :: undef :: undef :: undef :: undef :: undef :: undef :: undef :: undef :: undef :: undef :: undef :: undef :: undef :: undef :: undef :: undef :: undef :: undef :: undef :: undef :: undef :: undef :: undef :: undef :: undef :: undef :: undef :: undef :: undef :: undef :: undef :: undef :: undef :: undef :: undef :: undef :: undef :: undef :: undef :: undef :: undef :: undef :: undef :: undef :: undef :: undef :: undef :: undef :: undef :: undef :: undef :: undef :: undef :: undef :: undef :: undef :: undef :: undef :: undef :: undef :: undef :: undef :: undef :: undef :: undef :: undef :: undef :: undef :: undef :: undef :: undef :: undef :: undef :: undef :: undef :: undef :: []) Tryd.func22 rfl (by kernel_rfl) ?_
  refine wp_seq ?_
  refine wp_region_lit ?_
  refine kb HS [.pointer (some ⟨g, 0, none⟩)] 24 (fun g => .pointer (some ⟨g, 0, none⟩)) (by kernel_rfl) (by kernel_rfl) ?_
  intro g1 W2 H_
  replace HS : St W M_ W2 [blk g1 [.pointer (some ⟨g, 0, none⟩)] 24, blk g [.pointer none, .pointer (some ⟨d, 0, none⟩), .int .i64 n] 53, blk d [.slice A ws.length c, .int .i64 n] 62, row A ws.length c (ci .u64 ws) 63 1, blk h [.pointer (some ⟨q2, 0, none⟩), .pointer none, .int .i64 m] 53, blk q2 [.slice B M.length c2] 74, row B M.length c2 (ci .i32 M) 21 1] := H_
  clear H_
  refine ql (.bool false) (by kernel_rfl) (by kernel_rfl) ?_
  refine wpList_nil ?_
  refine x_then ?_
  refine wp_seq ?_
  refine wp_block ?_
  refine wp_seq ?_
  refine rg_still HS 17 (by kernel_rfl) (by kernel_rfl) ?_
  intro W3 H_ HK_
  simp only [List.take_succ_cons, List.take_zero, List.drop_succ_cons, List.drop_zero]
  replace HS : St W M_ W3 [blk g1 [.pointer (some ⟨g, 0, none⟩)] 24, blk g [.pointer none, .pointer (some ⟨d, 0, none⟩), .int .i64 n] 53, blk d [.slice A ws.length c, .int .i64 n] 62, row A ws.length c (ci .u64 ws) 63 1, blk h [.pointer (some ⟨q2, 0, none⟩), .pointer none, .int .i64 m] 53, blk q2 [.slice B M.length c2] 74, row B M.length c2 (ci .i32 M) 21 1] := H_
  clear H_
  clear HK_
  refine qs (.pointer (some ⟨g, 0, none⟩)) (by kernel_rfl) (R_load (p := ⟨g1, 0, none⟩) (by kernel_rfl) (by kernel_rfl) (by kernel_rfl) (HS.cell (i := 0) (j := 0) rfl rfl)) ?_
  refine qs (.bool false) (by kernel_rfl) (by kernel_rfl) ?_
  refine qs (.bool false) (by kernel_rfl) (by kernel_rfl) ?_
  refine qs (.pointer (some ⟨h, 0, none⟩)) (by kernel_rfl) (by kernel_rfl) ?_
  refine qs (.bool false) (by kernel_rfl) (by kernel_rfl) ?_
  refine qs (.bool false) (by kernel_rfl) (by kernel_rfl) ?_
  refine qs (.bool false) (by kernel_rfl) (by kernel_rfl) ?_
  refine qs (.pointer (some ⟨g, 0, none⟩)) (by kernel_rfl) (R_load (p := ⟨g1, 0, none⟩) (by kernel_rfl) (by kernel_rfl) (by kernel_rfl) (HS.cell (i := 0) (j := 0) rfl rfl)) ?_
  refine qs (.pointer (some ⟨g, 0, none⟩)) (by kernel_rfl) (by kernel_rfl) ?_
  refine qs (.pointer (some ⟨g, 2, none⟩)) (by kernel_rfl) (by kernel_rfl) ?_
  refine qs (.int .i64 n) (by kernel_rfl) (R_load (p := ⟨g, 2, none⟩) (by kernel_rfl) (by kernel_rfl) (by kernel_rfl) (HS.cell (i := 1) (j := 2) rfl rfl)) ?_
  refine qs (.pointer (some ⟨h, 0, none⟩)) (by kernel_rfl) (by kernel_rfl) ?_
  refine qs (.pointer (some ⟨h, 0, none⟩)) (by kernel_rfl) (by kernel_rfl) ?_
  refine qs (.pointer (some ⟨h, 2, none⟩)) (by kernel_rfl) (by kernel_rfl) ?_
  refine qs (.int .i64 m) (by kernel_rfl) (R_load (p := ⟨h, 2, none⟩) (by kernel_rfl) (by kernel_rfl) (by kernel_rfl) (HS.cell (i := 4) (j := 2) rfl rfl)) ?_
  refine qs (.bool true) (by kernel_rfl) (R_beq (b := (n != m)) (by kernel_rfl) (bne_t (by omega))) ?_
  refine qs (.bool true) (by kernel_rfl) (by kernel_rfl) ?_
  refine wpStill_nil ?_
  refine ql (.bool true) (by kernel_rfl) (by kernel_rfl) ?_
  refine wpList_nil ?_
  refine x_then ?_
  refine wp_cond_true (by kernel_rfl) ?_
  refine wp_seq ?_
  refine wp_region_lit ?_
  refine ql (.bool false) (by kernel_rfl) (by kernel_rfl) ?_
  refine wpList_nil ?_
  refine x_then ?_
  refine wp_ret ?_
  refine x_inbR ?_
  refine x_thenR ?_
  refine retM_ (.bool false) (by kernel_rfl) ?_
  replace HS := HS.drop1
  exact ⟨rfl, HS⟩

set_option maxRecDepth 100000 in
set_option maxHeartbeats 1000000 in
theorem mor_eq_mf (g d c : Nat) (A : Option Addr) (ws : List Int) (h q2 c2 : Nat) (B : Option Addr) (n : Int) (L M : List Int) (W : World) (M_ : Nat → Prop) (HS : St W M_ W [blk g [.pointer none, .pointer (some ⟨d, 0, none⟩), .int .i64 n] 53, blk d [.slice A ws.length c, .int .i64 n] 62, row A ws.length c (ci .u64 ws) 63 1, blk h [.pointer (some ⟨q2, 0, none⟩), .pointer none, .int .i64 n] 53, blk q2 [.slice B M.length c2] 74, row B M.length c2 (ci .i32 M) 21 1]) (hR : Rep ws n L) (hnp : 0 < n) (hs2 : S31 M) (hlim2 : ∀ x ∈ M, x < n) (hl2 : M.length ≤ 8) (h0 : 0 ≤ n) (hn : n ≤ 1048576) : Calls Tryd.prog 22 #[.pointer (some ⟨g, 0, none⟩), .pointer (some ⟨h, 0, none⟩)] W fun e W' => ∃ x', e = .returned (.bool (newB L M)) ∧ St W M_ W' (many (mxE 53 74 21 62 63 g n (uni L M) x') :: [blk h [.pointer (some ⟨q2, 0, none⟩), .pointer none, .int .i64 n] 53, blk q2 [.slice B M.length c2] 74, row B M.length c2 (ci .i32 M) 21 1]) ∧ x'.ok n (uni L M) ∧ x'.b = true := by
  refine calls_enterM ((.pointer (some ⟨g, 0, none⟩)) :: (.pointer (some ⟨h, 0, none⟩)) :: undef :: undef :: undef :: undef :: undef :: undef :: undef :: undef :: undef :: undef :: undef :: undef :: undef :: undef :: undef :: undef :: undef :: undef :: undef :: undef :: undef :: undef :: undef :: undef :: undef :: undef :: undef :: undef :: undef :: undef :: undef :: undef :: undef :: undef :: undef :: undef :: undef :: undef :: undef :: undef :: undef :: undef :: undef :: undef :: undef :: undef :: undef :: undef :: undef :: undef :: undef :: undef :: undef :: undef :: undef :: undef :: undef :: undef :: undef :: undef :: undef :: undef :: undef :: undef :: undef :: undef :: undef :: undef :: undef :: undef :: undef :: undef :: undef :: undef :: undef :: undef :: undef :: undef :: undef :: undef :: undef :: undef :: undef :: undef :: undef :: undef :: undef :: undef :: undef :: undef :: undef :: undef :: undef :: undef :: undef :: undef :: undef :: undef :: undef :: undef :: undef :: undef :: undef :: undef :: undef :: undef :: undef :: undef :: undef :: undef :: undef :: undef :: undef :: undef :: undef :: undef :: undef :: undef :: undef :: undef :: undef :: undef :: undef :: undef :: undef :: undef :: undef :: []) Tryd.func22 rfl (by kernel_rfl) ?_
  refine wp_seq ?_
  refine wp_region_lit ?_
  refine kb HS [.pointer (some ⟨g, 0, none⟩)] 24 (fun g => .pointer (some ⟨g, 0, none⟩)) (by kernel_rfl) (by kernel_rfl) ?_
  intro g1 W2 H_
  replace HS : St W M_ W2 [blk g1 [.pointer (some ⟨g, 0, none⟩)] 24, blk g [.pointer none, .pointer (some ⟨d, 0, none⟩), .int .i64 n] 53, blk d [.slice A ws.length c, .int .i64 n] 62, row A ws.length c (ci .u64 ws) 63 1, blk h [.pointer (some ⟨q2, 0, none⟩), .pointer none, .int .i64 n] 53, blk q2 [.slice B M.length c2] 74, row B M.length c2 (ci .i32 M) 21 1] := H_
  clear H_
  refine ql (.bool false) (by kernel_rfl) (by kernel_rfl) ?_
  refine wpList_nil ?_
  refine x_then ?_
  refine wp_seq ?_
  refine wp_block ?_
  refine wp_seq ?_
  refine rg_still HS 17 (by kernel_rfl) (by kernel_rfl) ?_
  intro W3 H_ HK_
  simp only [List.take_succ_cons, List.take_zero, List.drop_succ_cons, List.drop_zero]
  replace HS : St W M_ W3 [blk g1 [.pointer (some ⟨g, 0, none⟩)] 24, blk g [.pointer none, .pointer (some ⟨d, 0, none⟩), .int .i64 n] 53, blk d [.slice A ws.length c, .int .i64 n] 62, row A ws.length c (ci .u64 ws) 63 1, blk h [.pointer (some ⟨q2, 0, none⟩), .pointer none, .int .i64 n] 53, blk q2 [.slice B M.length c2] 74, row B M.length c2 (ci .i32 M) 21 1] := H_
  clear H_
  clear HK_
  refine qs (.pointer (some ⟨g, 0, none⟩)) (by kernel_rfl) (R_load (p := ⟨g1, 0, none⟩) (by kernel_rfl) (by kernel_rfl) (by kernel_rfl) (HS.cell (i := 0) (j := 0) rfl rfl)) ?_
  refine qs (.bool false) (by kernel_rfl) (by kernel_rfl) ?_
  refine qs (.bool false) (by kernel_rfl) (by kernel_rfl) ?_
  refine qs (.pointer (some ⟨h, 0, none⟩)) (by kernel_rfl) (by kernel_rfl) ?_
  refine qs (.bool false) (by kernel_rfl) (by kernel_rfl) ?_
  refine qs (.bool false) (by kernel_rfl) (by kernel_rfl) ?_
  refine qs (.bool false) (by kernel_rfl) (by kernel_rfl) ?_
  refine qs (.pointer (some ⟨g, 0, none⟩)) (by kernel_rfl) (R_load (p := ⟨g1, 0, none⟩) (by kernel_rfl) (by kernel_rfl) (by kernel_rfl) (HS.cell (i := 0) (j := 0) rfl rfl)) ?_
  refine qs (.pointer (some ⟨g, 0, none⟩)) (by kernel_rfl) (by kernel_rfl) ?_
  refine qs (.pointer (some ⟨g, 2, none⟩)) (by kernel_rfl) (by kernel_rfl) ?_
  refine qs (.int .i64 n) (by kernel_rfl) (R_load (p := ⟨g, 2, none⟩) (by kernel_rfl) (by kernel_rfl) (by kernel_rfl) (HS.cell (i := 1) (j := 2) rfl rfl)) ?_
  refine qs (.pointer (some ⟨h, 0, none⟩)) (by kernel_rfl) (by kernel_rfl) ?_
  refine qs (.pointer (some ⟨h, 0, none⟩)) (by kernel_rfl) (by kernel_rfl) ?_
  refine qs (.pointer (some ⟨h, 2, none⟩)) (by kernel_rfl) (by kernel_rfl) ?_
  refine qs (.int .i64 n) (by kernel_rfl) (R_load (p := ⟨h, 2, none⟩) (by kernel_rfl) (by kernel_rfl) (by kernel_rfl) (HS.cell (i := 4) (j := 2) rfl rfl)) ?_
  refine qs (.bool false) (by kernel_rfl) (R_beq (b := (n != n)) (by kernel_rfl) (bne_f (by omega))) ?_
  refine qs (.bool false) (by kernel_rfl) (by kernel_rfl) ?_
  refine wpStill_nil ?_
  refine ql (.bool false) (by kernel_rfl) (by kernel_rfl) ?_
  refine wpList_nil ?_
  refine x_then ?_
  refine wp_cond_false (by kernel_rfl) ?_
  refine wp_seq ?_
  refine wp_region_lit ?_
  refine ql (.pointer (some ⟨g, 0, none⟩)) (by kernel_rfl) (R_load (p := ⟨g1, 0, none⟩) (by kernel_rfl) (by kernel_rfl) (by kernel_rfl) (HS.cell (i := 0) (j := 0) rfl rfl)) ?_
  refine ql (.pointer (some ⟨g, 0, none⟩)) (by kernel_rfl) (by kernel_rfl) ?_
  refine ql (.pointer (some ⟨g, 1, none⟩)) (by kernel_rfl) (by kernel_rfl) ?_
  refine ql (.pointer (some ⟨d, 0, none⟩)) (by kernel_rfl) (R_load (p := ⟨g, 1, none⟩) (by kernel_rfl) (by kernel_rfl) (by kernel_rfl) (HS.cell (i := 1) (j := 1) rfl rfl)) ?_
  refine ql (.bool true) (by kernel_rfl) (by kernel_rfl) ?_
  refine ql (.bool true) (by kernel_rfl) (by kernel_rfl) ?_
  refine ql (.pointer (some ⟨h, 0, none⟩)) (by kernel_rfl) (by kernel_rfl) ?_
  refine ql (.pointer (some ⟨h, 0, none⟩)) (by kernel_rfl) (by kernel_rfl) ?_
  refine ql (.pointer (some ⟨h, 1, none⟩)) (by kernel_rfl) (by kernel_rfl) ?_
  refine ql (.pointer none) (by kernel_rfl) (R_load (p := ⟨h, 1, none⟩) (by kernel_rfl) (by kernel_rfl) (by kernel_rfl) (HS.cell (i := 4) (j := 1) rfl rfl)) ?_
  refine ql (.bool false) (by kernel_rfl) (by kernel_rfl) ?_
  refine ql (.bool false) (by kernel_rfl) (by kernel_rfl) ?_
  refine ql (.bool false) (by kernel_rfl) (by kernel_rfl) ?_
  refine wpList_nil ?_
  refine x_then ?_
  refine wp_cond_false (by kernel_rfl) ?_
  refine wp_seq ?_
  refine wp_region_lit ?_
  refine ql (.pointer (some ⟨g, 0, none⟩)) (by kernel_rfl) (R_load (p := ⟨g1, 0, none⟩) (by kernel_rfl) (by kernel_rfl) (by kernel_rfl) (HS.cell (i := 0) (j := 0) rfl rfl)) ?_
  refine ql (.pointer (some ⟨g, 0, none⟩)) (by kernel_rfl) (by kernel_rfl) ?_
  refine ql (.pointer (some ⟨g, 1, none⟩)) (by kernel_rfl) (by kernel_rfl) ?_
  refine ql (.pointer (some ⟨d, 0, none⟩)) (by kernel_rfl) (R_load (p := ⟨g, 1, none⟩) (by kernel_rfl) (by kernel_rfl) (by kernel_rfl) (HS.cell (i := 1) (j := 1) rfl rfl)) ?_
  refine ql (.bool false) (by kernel_rfl) (by kernel_rfl) ?_
  refine ql (.bool false) (by kernel_rfl) (by kernel_rfl) ?_
  refine qln (by kernel_rfl) ?_
  refine qln (by kernel_rfl) ?_
  refine qln (by kernel_rfl) ?_
  refine qln (by kernel_rfl) ?_
  refine qln (by kernel_rfl) ?_
  refine ql (.bool false) (by kernel_rfl) (by kernel_rfl) ?_
  refine ql (.bool false) (by kernel_rfl) (by kernel_rfl) ?_
  refine wpList_nil ?_
  refine x_then ?_
  refine wp_cond_false (by kernel_rfl) ?_
  refine wp_seq ?_
  refine wp_region_lit ?_
  refine ql (.pointer (some ⟨g, 0, none⟩)) (by kernel_rfl) (R_load (p := ⟨g1, 0, none⟩) (by kernel_rfl) (by kernel_rfl) (by kernel_rfl) (HS.cell (i := 0) (j := 0) rfl rfl)) ?_
  refine ql (.pointer (some ⟨g, 0, none⟩)) (by kernel_rfl) (by kernel_rfl) ?_
  refine ql (.pointer (some ⟨g, 1, none⟩)) (by kernel_rfl) (by kernel_rfl) ?_
  refine ql (.pointer (some ⟨d, 0, none⟩)) (by kernel_rfl) (R_load (p := ⟨g, 1, none⟩) (by kernel_rfl) (by kernel_rfl) (by kernel_rfl) (HS.cell (i := 1) (j := 1) rfl rfl)) ?_
  refine ql (.bool false) (by kernel_rfl) (by kernel_rfl) ?_
  refine ql (.bool false) (by kernel_rfl) (by kernel_rfl) ?_
  refine wpList_nil ?_
  refine x_then ?_
  refine wp_cond_false (by kernel_rfl) ?_
  refine wp_skip ?_
  refine x_inb ?_
  refine x_then ?_
  refine wp_seq ?_
  refine wp_region_lit ?_
  refine kb HS [.bool false] 4 (fun g => .pointer (some ⟨g, 0, none⟩)) (by kernel_rfl) (by kernel_rfl) ?_
  intro g4 W5 H_
  replace HS : St W M_ W5 [blk g4 [.bool false] 4, blk g1 [.pointer (some ⟨g, 0, none⟩)] 24, blk g [.pointer none, .pointer (some ⟨d, 0, none⟩), .int .i64 n] 53, blk d [.slice A ws.length c, .int .i64 n] 62, row A ws.length c (ci .u64 ws) 63 1, blk h [.pointer (some ⟨q2, 0, none⟩), .pointer none, .int .i64 n] 53, blk q2 [.slice B M.length c2] 74, row B M.length c2 (ci .i32 M) 21 1] := H_
  clear H_
  refine ks (v := .bool false) HS 0 rfl (0) [.bool false] (by kernel_rfl) (by kernel_rfl) (by kernel_rfl) (by kernel_rfl) (by kernel_rfl) (one_ (by kernel_rfl)) (Nat.le_of_ble_eq_true rfl) rfl ?_
  intro W6 H_
  replace HS : St W M_ W6 [blk g4 [.bool false] 4, blk g1 [.pointer (some ⟨g, 0, none⟩)] 24, blk g [.pointer none, .pointer (some ⟨d, 0, none⟩), .int .i64 n] 53, blk d [.slice A ws.length c, .int .i64 n] 62, row A ws.length c (ci .u64 ws) 63 1, blk h [.pointer (some ⟨q2, 0, none⟩), .pointer none, .int .i64 n] 53, blk q2 [.slice B M.length c2] 74, row B M.length c2 (ci .i32 M) 21 1] := H_
  clear H_
  refine wpList_nil ?_
  refine x_then ?_
  refine wp_seq ?_
  refine wp_seq ?_
  refine wp_region_lit ?_
  refine ql (.pointer (some ⟨h, 0, none⟩)) (by kernel_rfl) (by kernel_rfl) ?_
  refine ql (.pointer (some ⟨h, 0, none⟩)) (by kernel_rfl) (by kernel_rfl) ?_
  refine ql (.pointer (some ⟨h, 0, none⟩)) (by kernel_rfl) (by kernel_rfl) ?_
  refine ql (.pointer (some ⟨q2, 0, none⟩)) (by kernel_rfl) (R_load (p := ⟨h, 0, none⟩) (by kernel_rfl) (by kernel_rfl) (by kernel_rfl) (HS.cell (i := 5) (j := 0) rfl rfl)) ?_
  refine qc (f := 43) (args := #[.pointer (some ⟨q2, 0, none⟩)]) (by kernel_rfl) (R_call #[.pointer (some ⟨q2, 0, none⟩)] Tryd.func43 (by kernel_rfl) (by kernel_rfl) (by kernel_rfl)) ?_
  refine (sall q2 _).mono ?_
  rintro e W8 ⟨b7, rfl, H_⟩
  refine ⟨_, rfl, ?_⟩
  replace HS : St W M_ W8 [blk b7 [.pointer (some ⟨q2, 0, none⟩)] 50, blk g4 [.bool false] 4, blk g1 [.pointer (some ⟨g, 0, none⟩)] 24, blk g [.pointer none, .pointer (some ⟨d, 0, none⟩), .int .i64 n] 53, blk d [.slice A ws.length c, .int .i64 n] 62, row A ws.length c (ci .u64 ws) 63 1, blk h [.pointer (some ⟨q2, 0, none⟩), .pointer none, .int .i64 n] 53, blk q2 [.slice B M.length c2] 74, row B M.length c2 (ci .i32 M) 21 1] := HS.join (F := []) (G := [blk b7 [.pointer (some ⟨q2, 0, none⟩)] 50]) H_
  clear H_
  refine wpList_nil ?_
  refine x_then ?_
  refine wp_block ?_
  replace HS : St W M_ W8 [blk d [.slice A ws.length c, .int .i64 n] 62, row A ws.length c (ci .u64 ws) 63 1, blk g4 [.bool false] 4, blk b7 [.pointer (some ⟨q2, 0, none⟩)] 50, blk g1 [.pointer (some ⟨g, 0, none⟩)] 24, blk g [.pointer none, .pointer (some ⟨d, 0, none⟩), .int .i64 n] 53, blk h [.pointer (some ⟨q2, 0, none⟩), .pointer none, .int .i64 n] 53, blk q2 [.slice B M.length c2] 74, row B M.length c2 (ci .i32 M) 21 1] := HS.perm (perm_ [4, 5, 1, 0, 2, 3, 6, 7, 8] (by kernel_rfl) rfl)
  have HDT : SpT b7 q2 c2 B M _ := ⟨HS.cell (i := 3) (j := 0) rfl rfl, HS.cell (i := 7) (j := 0) rfl rfl, Rd.row HS (i := 8) rfl⟩
  have HSb := HS
  refine rangeF (gf := 53) (lb := #[.pointer (some ⟨b7, 0, none⟩)]) (m := 0) (by kernel_rfl) (enters_of Tryd.func53 (by kernel_rfl) rfl) (sall_stops b7 q2 c2 B M _ HDT.hb HDT.h0 HDT.hr hs2 (by omega) 0) (fun h_ k_ => fun x_ => k_ (h_ x_)) (fun X l_ o_ o2_ _ h1_ h2_ _ => fun x_ => x_.put h1_ h2_)
    (fun pre w' => ∃ (ws_ : List Int), (Rep ws_ n (adds n L pre)) ∧ St W M_ w' [blk d [.slice A ws_.length c, .int .i64 n] 62, row A ws_.length c (ci .u64 ws_) 63 1, blk g4 [.bool (addsB n L pre)] 4, blk b7 [.pointer (some ⟨q2, 0, none⟩)] 50, blk g1 [.pointer (some ⟨g, 0, none⟩)] 24, blk g [.pointer none, .pointer (some ⟨d, 0, none⟩), .int .i64 n] 53, blk h [.pointer (some ⟨q2, 0, none⟩), .pointer none, .int .i64 n] 53, blk q2 [.slice B M.length c2] 74, row B M.length c2 (ci .i32 M) 21 1])
    (fun c pre w' => False)
    (fun s_ A_ B_ r_ h_ hg_ hr_ => by obtain ⟨ws_, hR9, HS⟩ := h_; exact ⟨ws_, hR9, HS.grown (cel_cons blk_cel (cel_cons row_cel (cel_cons blk_cel (cel_cons blk_cel (cel_cons blk_cel (cel_cons blk_cel (cel_cons blk_cel (cel_cons blk_cel (cel_cons row_cel cel_nil))))))))) HSb.le hg_ hr_⟩)
    (fun _ _ _ _ _ h_ _ _ => h_)
    (by exact ⟨ws, hR, HS⟩)
    (fun x => ((.pointer (some ⟨g, 0, none⟩)) :: (.pointer (some ⟨h, 0, none⟩)) :: (.pointer (some ⟨g1, 0, none⟩)) :: undef :: (.bool false) :: undef :: undef :: undef :: (.pointer (some ⟨g4, 0, none⟩)) :: (.int .i64 x) :: (.bool false) :: (.pointer (some ⟨g, 0, none⟩)) :: (.bool false) :: (.bool false) :: (.pointer (some ⟨h, 0, none⟩)) :: (.bool false) :: (.bool false) :: (.bool false) :: (.pointer (some ⟨g, 0, none⟩)) :: (.pointer (some ⟨g, 0, none⟩)) :: (.pointer (some ⟨g, 2, none⟩)) :: (.int .i64 n) :: (.pointer (some ⟨h, 0, none⟩)) :: (.pointer (some ⟨h, 0, none⟩)) :: (.pointer (some ⟨h, 2, none⟩)) :: (.int .i64 n) :: (.bool false) :: (.bool false) :: (.bool false) :: (.pointer (some ⟨g, 0, none⟩)) :: (.pointer (some ⟨g, 0, none⟩)) :: (.pointer (some ⟨g, 1, none⟩)) :: (.pointer (some ⟨d, 0, none⟩)) :: (.bool true) :: (.bool true) :: (.pointer (some ⟨h, 0, none⟩)) :: (.pointer (some ⟨h, 0, none⟩)) :: (.pointer (some ⟨h, 1, none⟩)) :: (.pointer none) :: (.bool false) :: (.bool false) :: undef :: undef :: undef :: undef :: undef :: undef :: undef :: undef :: undef :: (.bool false) :: (.pointer (some ⟨g, 0, none⟩)) :: (.pointer (some ⟨g, 0, none⟩)) :: (.pointer (some ⟨g, 1, none⟩)) :: (.pointer (some ⟨d, 0, none⟩)) :: (.bool false) :: (.bool false) :: undef :: undef :: undef :: undef :: undef :: (.bool false) :: undef :: undef :: undef :: undef :: undef :: undef :: undef :: undef :: undef :: undef :: undef :: undef :: (.bool false) :: (.pointer (some ⟨g, 0, none⟩)) :: (.pointer (some ⟨g, 0, none⟩)) :: (.pointer (some ⟨g, 1, none⟩)) :: (.pointer (some ⟨d, 0, none⟩)) :: (.bool false) :: undef :: undef :: undef :: undef :: undef :: undef :: undef :: undef :: undef :: undef :: undef :: undef :: undef :: undef :: undef :: undef :: undef :: undef :: undef :: undef :: undef :: undef :: undef :: undef :: undef :: undef :: undef :: undef :: undef :: undef :: undef :: undef :: (.pointer (some ⟨h, 0, none⟩)) :: (.pointer (some ⟨h, 0, none⟩)) :: (.pointer (some ⟨h, 0, none⟩)) :: (.pointer (some ⟨q2, 0, none⟩)) :: (.func (.func 53) #[] #[.pointer (some ⟨b7, 0, none⟩)]) :: (.int .i64 x) :: undef :: undef :: undef :: undef :: undef :: undef :: undef :: undef :: undef :: undef :: [])) ?_ ?_ ?_ ?_
  · intro l x W9 K_ hK_
    refine wp_region_litR (by kernel_rfl) (fun ⟨_, _, h_⟩ => (h_ : False)) ?_
    refine ql (.int .i64 x) (by kernel_rfl) (by kernel_rfl) ?_
    refine wpList_nil ?_
    refine x_then ?_
    exact kk_ (congrArg Fr (by kernel_rfl)) hK_
  · intro l pre x W9 hI_ hlt
    obtain ⟨ws_, hR9, HS⟩ := hI_
    have HO := HS
    replace HS := HO.root
    refine wpIn_block ?_
    refine wp_region_litR (by kernel_rfl) (fun ⟨_, _, h_⟩ => (h_ : False)) ?_
    refine ql (.pointer (some ⟨g, 0, none⟩)) (by kernel_rfl) (R_load (p := ⟨g1, 0, none⟩) (by kernel_rfl) (by kernel_rfl) (by kernel_rfl) (HS.cell (i := 4) (j := 0) rfl rfl)) ?_
    refine ql (.pointer (some ⟨g, 0, none⟩)) (by kernel_rfl) (by kernel_rfl) ?_
    refine ql (.pointer (some ⟨g, 1, none⟩)) (by kernel_rfl) (by kernel_rfl) ?_
    refine ql (.pointer (some ⟨d, 0, none⟩)) (by kernel_rfl) (R_load (p := ⟨g, 1, none⟩) (by kernel_rfl) (by kernel_rfl) (by kernel_rfl) (HS.cell (i := 5) (j := 1) rfl rfl)) ?_
    refine ql (.int .i64 x) (by kernel_rfl) (by kernel_rfl) ?_
    refine qc (f := 12) (args := #[.pointer (some ⟨d, 0, none⟩), .int .i64 x]) (by kernel_rfl) (R_call #[.pointer (some ⟨d, 0, none⟩), .int .i64 x] Tryd.func12 (by kernel_rfl) (by kernel_rfl) (by kernel_rfl)) ?_
    by_cases hv : addB n (adds n L pre) x = true
    · skip
      have hdx : addB n (adds n L pre) x = true := hv
      refine (dadd d c A ws_ n (adds n L pre) x _ _ (St.focus (F := [blk d [.slice A ws_.length c, .int .i64 n] 62, row A ws_.length c (ci .u64 ws_) 63 1]) HS) hR9 hn).mono ?_
      rintro e W12 ⟨ws10, rfl, H_, hR11⟩
      rw [hdx]
      refine ⟨_, rfl, ?_⟩
      replace HS : St W9 (owns [blk d [.slice A ws_.length c, .int .i64 n] 62, row A ws_.length c (ci .u64 ws_) 63 1, blk g4 [.bool (addsB n L pre)] 4, blk b7 [.pointer (some ⟨q2, 0, none⟩)] 50, blk g1 [.pointer (some ⟨g, 0, none⟩)] 24, blk g [.pointer none, .pointer (some ⟨d, 0, none⟩), .int .i64 n] 53, blk h [.pointer (some ⟨q2, 0, none⟩), .pointer none, .int .i64 n] 53, blk q2 [.slice B M.length c2] 74, row B M.length c2 (ci .i32 M) 21 1]) W12 [blk d [.slice A ws10.length c, .int .i64 n] 62, row A ws10.length c (ci .u64 ws10) 63 1, blk g4 [.bool (addsB n L pre)] 4, blk b7 [.pointer (some ⟨q2, 0, none⟩)] 50, blk g1 [.pointer (some ⟨g, 0, none⟩)] 24, blk g [.pointer none, .pointer (some ⟨d, 0, none⟩), .int .i64 n] 53, blk h [.pointer (some ⟨q2, 0, none⟩), .pointer none, .int .i64 n] 53, blk q2 [.slice B M.length c2] 74, row B M.length c2 (ci .i32 M) 21 1] := HS.join (F := [blk d [.slice A ws_.length c, .int .i64 n] 62, row A ws_.length c (ci .u64 ws_) 63 1]) (G := [blk d [.slice A ws10.length c, .int .i64 n] 62, row A ws10.length c (ci .u64 ws10) 63 1]) H_
      clear H_
      refine ql (.bool true) (by kernel_rfl) (by kernel_rfl) ?_
      refine qln (by kernel_rfl) ?_
      refine ql (.bool true) (by kernel_rfl) (by kernel_rfl) ?_
      refine ks (v := .bool true) HS 2 rfl (0) [.bool true] (by kernel_rfl) (by kernel_rfl) (by kernel_rfl) (by kernel_rfl) (by kernel_rfl) (one_ (by kernel_rfl)) (Nat.le_of_ble_eq_true rfl) rfl ?_
      intro W13 H_
      replace HS : St W9 (owns [blk d [.slice A ws_.length c, .int .i64 n] 62, row A ws_.length c (ci .u64 ws_) 63 1, blk g4 [.bool (addsB n L pre)] 4, blk b7 [.pointer (some ⟨q2, 0, none⟩)] 50, blk g1 [.pointer (some ⟨g, 0, none⟩)] 24, blk g [.pointer none, .pointer (some ⟨d, 0, none⟩), .int .i64 n] 53, blk h [.pointer (some ⟨q2, 0, none⟩), .pointer none, .int .i64 n] 53, blk q2 [.slice B M.length c2] 74, row B M.length c2 (ci .i32 M) 21 1]) W13 [blk d [.slice A ws10.length c, .int .i64 n] 62, row A ws10.length c (ci .u64 ws10) 63 1, blk g4 [.bool true] 4, blk b7 [.pointer (some ⟨q2, 0, none⟩)] 50, blk g1 [.pointer (some ⟨g, 0, none⟩)] 24, blk g [.pointer none, .pointer (some ⟨d, 0, none⟩), .int .i64 n] 53, blk h [.pointer (some ⟨q2, 0, none⟩), .pointer none, .int .i64 n] 53, blk q2 [.slice B M.length c2] 74, row B M.length c2 (ci .i32 M) 21 1] := H_
      clear H_
      refine wpList_nil ?_
      refine x_inb ?_
      replace HS : St W9 (owns [blk d [.slice A ws_.length c, .int .i64 n] 62, row A ws_.length c (ci .u64 ws_) 63 1, blk g4 [.bool (addsB n L pre)] 4, blk b7 [.pointer (some ⟨q2, 0, none⟩)] 50, blk g1 [.pointer (some ⟨g, 0, none⟩)] 24, blk g [.pointer none, .pointer (some ⟨d, 0, none⟩), .int .i64 n] 53, blk h [.pointer (some ⟨q2, 0, none⟩), .pointer none, .int .i64 n] 53, blk q2 [.slice B M.length c2] 74, row B M.length c2 (ci .i32 M) 21 1]) W13 [blk d [.slice A ws10.length c, .int .i64 n] 62, row A ws10.length c (ci .u64 ws10) 63 1, blk g4 [.bool (addsB n L (pre ++ [x]))] 4, blk b7 [.pointer (some ⟨q2, 0, none⟩)] 50, blk g1 [.pointer (some ⟨g, 0, none⟩)] 24, blk g [.pointer none, .pointer (some ⟨d, 0, none⟩), .int .i64 n] 53, blk h [.pointer (some ⟨q2, 0, none⟩), .pointer none, .int .i64 n] 53, blk q2 [.slice B M.length c2] 74, row B M.length c2 (ci .i32 M) 21 1] := by rw [addsB_snoc, hdx]; exact HS
      have HF := HO.unroot HS
      exact og_n (HS.keepsFrom HO (cel_cons blk_cel (cel_cons row_cel (cel_cons blk_cel (cel_cons blk_cel (cel_cons blk_cel (cel_cons blk_cel (cel_cons blk_cel (cel_cons blk_cel (cel_cons row_cel cel_nil))))))))) _) (fun _ => ⟨HF.cell (i := 3) (j := 0) rfl rfl, HF.cell (i := 7) (j := 0) rfl rfl, Rd.row HF (i := 8) rfl⟩) ⟨ws10, (by rw [adds_snoc]; exact hR11), HF⟩
    · skip
      have hdx : addB n (adds n L pre) x = false := Bool.eq_false_iff.2 hv
      refine (dadd d c A ws_ n (adds n L pre) x _ _ (St.focus (F := [blk d [.slice A ws_.length c, .int .i64 n] 62, row A ws_.length c (ci .u64 ws_) 63 1]) HS) hR9 hn).mono ?_
      rintro e W16 ⟨ws14, rfl, H_, hR15⟩
      rw [hdx]
      refine ⟨_, rfl, ?_⟩
      replace HS : St W9 (owns [blk d [.slice A ws_.length c, .int .i64 n] 62, row A ws_.length c (ci .u64 ws_) 63 1, blk g4 [.bool (addsB n L pre)] 4, blk b7 [.pointer (some ⟨q2, 0, none⟩)] 50, blk g1 [.pointer (some ⟨g, 0, none⟩)] 24, blk g [.pointer none, .pointer (some ⟨d, 0, none⟩), .int .i64 n] 53, blk h [.pointer (some ⟨q2, 0, none⟩), .pointer none, .int .i64 n] 53, blk q2 [.slice B M.length c2] 74, row B M.length c2 (ci .i32 M) 21 1]) W16 [blk d [.slice A ws14.length c, .int .i64 n] 62, row A ws14.length c (ci .u64 ws14) 63 1, blk g4 [.bool (addsB n L pre)] 4, blk b7 [.pointer (some ⟨q2, 0, none⟩)] 50, blk g1 [.pointer (some ⟨g, 0, none⟩)] 24, blk g [.pointer none, .pointer (some ⟨d, 0, none⟩), .int .i64 n] 53, blk h [.pointer (some ⟨q2, 0, none⟩), .pointer none, .int .i64 n] 53, blk q2 [.slice B M.length c2] 74, row B M.length c2 (ci .i32 M) 21 1] := HS.join (F := [blk d [.slice A ws_.length c, .int .i64 n] 62, row A ws_.length c (ci .u64 ws_) 63 1]) (G := [blk d [.slice A ws14.length c, .int .i64 n] 62, row A ws14.length c (ci .u64 ws14) 63 1]) H_
      clear H_
      refine ql (.bool false) (by kernel_rfl) (by kernel_rfl) ?_
      refine ql (.bool (addsB n L pre)) (by kernel_rfl) (R_load (p := ⟨g4, 0, none⟩) (by kernel_rfl) (by kernel_rfl) (by kernel_rfl) (HS.cell (i := 2) (j := 0) rfl rfl)) ?_
      refine ql (.bool (addsB n L pre)) (by kernel_rfl) (by kernel_rfl) ?_
      refine ks (v := .bool (addsB n L pre)) HS 2 rfl (0) [.bool (addsB n L pre)] (by kernel_rfl) (by kernel_rfl) (by kernel_rfl) (by kernel_rfl) (by kernel_rfl) (one_ (by kernel_rfl)) (Nat.le_of_ble_eq_true rfl) rfl ?_
      intro W17 H_
      replace HS : St W9 (owns [blk d [.slice A ws_.length c, .int .i64 n] 62, row A ws_.length c (ci .u64 ws_) 63 1, blk g4 [.bool (addsB n L pre)] 4, blk b7 [.pointer (some ⟨q2, 0, none⟩)] 50, blk g1 [.pointer (some ⟨g, 0, none⟩)] 24, blk g [.pointer none, .pointer (some ⟨d, 0, none⟩), .int .i64 n] 53, blk h [.pointer (some ⟨q2, 0, none⟩), .pointer none, .int .i64 n] 53, blk q2 [.slice B M.length c2] 74, row B M.length c2 (ci .i32 M) 21 1]) W17 [blk d [.slice A ws14.length c, .int .i64 n] 62, row A ws14.length c (ci .u64 ws14) 63 1, blk g4 [.bool (addsB n L pre)] 4, blk b7 [.pointer (some ⟨q2, 0, none⟩)] 50, blk g1 [.pointer (some ⟨g, 0, none⟩)] 24, blk g [.pointer none, .pointer (some ⟨d, 0, none⟩), .int .i64 n] 53, blk h [.pointer (some ⟨q2, 0, none⟩), .pointer none, .int .i64 n] 53, blk q2 [.slice B M.length c2] 74, row B M.length c2 (ci .i32 M) 21 1] := H_
      clear H_
      refine wpList_nil ?_
      refine x_inb ?_
      replace HS : St W9 (owns [blk d [.slice A ws_.length c, .int .i64 n] 62, row A ws_.length c (ci .u64 ws_) 63 1, blk g4 [.bool (addsB n L pre)] 4, blk b7 [.pointer (some ⟨q2, 0, none⟩)] 50, blk g1 [.pointer (some ⟨g, 0, none⟩)] 24, blk g [.pointer none, .pointer (some ⟨d, 0, none⟩), .int .i64 n] 53, blk h [.pointer (some ⟨q2, 0, none⟩), .pointer none, .int .i64 n] 53, blk q2 [.slice B M.length c2] 74, row B M.length c2 (ci .i32 M) 21 1]) W17 [blk d [.slice A ws14.length c, .int .i64 n] 62, row A ws14.length c (ci .u64 ws14) 63 1, blk g4 [.bool (addsB n L (pre ++ [x]))] 4, blk b7 [.pointer (some ⟨q2, 0, none⟩)] 50, blk g1 [.pointer (some ⟨g, 0, none⟩)] 24, blk g [.pointer none, .pointer (some ⟨d, 0, none⟩), .int .i64 n] 53, blk h [.pointer (some ⟨q2, 0, none⟩), .pointer none, .int .i64 n] 53, blk q2 [.slice B M.length c2] 74, row B M.length c2 (ci .i32 M) 21 1] := by rw [addsB_snoc, hdx]; exact HS
      have HF := HO.unroot HS
      exact og_n (HS.keepsFrom HO (cel_cons blk_cel (cel_cons row_cel (cel_cons blk_cel (cel_cons blk_cel (cel_cons blk_cel (cel_cons blk_cel (cel_cons blk_cel (cel_cons blk_cel (cel_cons row_cel cel_nil))))))))) _) (fun _ => ⟨HF.cell (i := 3) (j := 0) rfl rfl, HF.cell (i := 7) (j := 0) rfl rfl, Rd.row HF (i := 8) rfl⟩) ⟨ws14, (by rw [adds_snoc]; exact hR15), HF⟩
  · intro D xs W9 hD hS hI_ hdf
    have hS : M = xs := hS.symm
    subst hS
    obtain ⟨ws_, hR9, HS⟩ := hI_
    replace HS := HS.addD (cel_cons blk_cel (cel_cons row_cel (cel_cons blk_cel (cel_cons blk_cel (cel_cons blk_cel (cel_cons blk_cel (cel_cons blk_cel (cel_cons blk_cel (cel_cons row_cel cel_nil))))))))) (Nat.le_trans HSb.le hD) hdf
    refine x_inb ?_
    refine x_then ?_
    refine wp_seq ?_
    refine wp_region_lit ?_
    refine ql (.bool (addsB n L M)) (by kernel_rfl) (R_load (p := ⟨g4, 0, none⟩) (by kernel_rfl) (by kernel_rfl) (by kernel_rfl) (HS.cell (i := 3) (j := 0) rfl rfl)) ?_
    refine ql (.bool (addsB n L M)) (by kernel_rfl) (by kernel_rfl) ?_
    refine wpList_nil ?_
    refine x_then ?_
    refine wp_ret ?_
    refine retD_ HS ?_
    clear HS
    intro W18 HS
    refine ⟨.bool (addsB n L M), by kernel_rfl, ?_⟩
    have hau : adds n L M = uni L M := adds_uni (fun x hx => ⟨(hs2.2 x hx).1, hlim2 x hx⟩)
    rw [hau] at hR9
    have hb9 : addsB n L M = newB L M := addsB_new (fun x hx => ⟨(hs2.2 x hx).1, hlim2 x hx⟩)
    replace HS : St W M_ W18 [blk g [.pointer none, .pointer (some ⟨d, 0, none⟩), .int .i64 n] 53, blk d [.slice A ws_.length c, .int .i64 n] 62, row A ws_.length c (ci .u64 ws_) 63 1, blk h [.pointer (some ⟨q2, 0, none⟩), .pointer none, .int .i64 n] 53, blk q2 [.slice B M.length c2] 74, row B M.length c2 (ci .i32 M) 21 1] := St.tail (F := [blk g4 [.bool (addsB n L M)] 4, blk b7 [.pointer (some ⟨q2, 0, none⟩)] 50, blk g1 [.pointer (some ⟨g, 0, none⟩)] 24]) (HS.perm (perm_ [2, 3, 4, 5, 0, 1, 6, 7, 8] (by kernel_rfl) rfl))
    exact ⟨.mny d c A ws_, by rw [← hb9], St.closeA (E := [blk g [.pointer none, .pointer (some ⟨d, 0, none⟩), .int .i64 n] 53, blk d [.slice A ws_.length c, .int .i64 n] 62, row A ws_.length c (ci .u64 ws_) 63 1]) HS, ⟨hR9, hnp⟩, rfl⟩
  · intro D c pre W9 hD hSp hIx_ hdf
    exact hIx_.elim

set_option maxRecDepth 100000 in
set_option maxHeartbeats 1000000 in
theorem mor_ne_mm (g d c : Nat) (A : Option Addr) (ws : List Int) (h d2 c2 b0 : Nat) (vs : List Int) (n m : Int) (L M : List Int) (W : World) (M_ : Nat → Prop) (HS : St W M_ W [blk g [.pointer none, .pointer (some ⟨d, 0, none⟩), .int .i64 n] 53, blk d [.slice A ws.length c, .int .i64 n] 62, row A ws.length c (ci .u64 ws) 63 1, blk h [.pointer none, .pointer (some ⟨d2, 0, none⟩), .int .i64 m] 53, blk d2 [.slice (some ⟨b0, 0, none⟩) vs.length c2, .int .i64 m] 62, row (some ⟨b0, 0, none⟩) vs.length c2 (ci .u64 vs) 63 1]) (hne : n ≠ m) : Calls Tryd.prog 22 #[.pointer (some ⟨g, 0, none⟩), .pointer (some ⟨h, 0, none⟩)] W fun e W' => e = .returned (.bool false) ∧ St W M_ W' [blk g [.pointer none, .pointer (some ⟨d, 0, none⟩), .int .i64 n] 53, blk d [.slice A ws.length c, .int .i64 n] 62, row A ws.length c (ci .u64 ws) 63 1, blk h [.pointer none, .pointer (some ⟨d2, 0, none⟩), .int .i64 m] 53, blk d2 [.slice (some ⟨b0, 0, none⟩) vs.length c2, .int .i64 m] 62, row (some ⟨b0, 0, none⟩) vs.length c2 (ci .u64 vs) 63 1] := by
  refine calls_enterM ((.pointer (some ⟨g, 0, none⟩)) :: (.pointer (some ⟨h, 0, none⟩)) :: undef :: undef :: undef :: undef :: undef :: undef :: undef :: undef :: undef :: undef :: undef :: undef :: undef :: undef :: undef :: undef :: undef :: undef :: undef :: undef :: undef :: undef :: undef :: undef :: undef :: undef :: undef :: undef :: undef :: undef :: undef :: undef :: undef :: undef :: undef :: undef :: undef :: undef :: undef :: undef :: undef :: undef :: undef :: undef :: undef :: undef :: undef :: undef :: undef :: undef :: undef :: undef :: undef :: undef :: undef :: undef :: undef :: undef :: undef :: undef :: undef :: undef :: undef :: undef :: undef :: undef :: undef :: undef :: undef :: undef :: undef :: undef :: undef :: undef :: undef :: undef :: undef :: undef :: undef :: undef :: undef :: undef :: undef :: undef :: undef :: undef :: undef :: undef :: undef :: undef :: undef :: undef :: undef :: undef :: undef :: undef :: undef :: undef :: undef :: undef :: undef :: undef :: undef :: undef :: undef :: undef :: undef :: undef :: undef :: undef :: undef :: undef :: undef :: undef :: undef :: undef :: undef :: undef :: undef :: undef :: undef :: undef :: undef :: undef :: undef :: undef :: undef :: []) Tryd.func22 rfl (by kernel_rfl) ?_
  refine wp_seq ?_
  refine wp_region_lit ?_
  refine kb HS [.pointer (some ⟨g, 0, none⟩)] 24 (fun g => .pointer (some ⟨g, 0, none⟩)) (by kernel_rfl) (by kernel_rfl) ?_
  intro g1 W2 H_
  replace HS : St W M_ W2 [blk g1 [.pointer (some ⟨g, 0, none⟩)] 24, blk g [.pointer none, .pointer (some ⟨d, 0, none⟩), .int .i64 n] 53, blk d [.slice A ws.length c, .int .i64 n] 62, row A ws.length c (ci .u64 ws) 63 1, blk h [.pointer none, .pointer (some ⟨d2, 0, none⟩), .int .i64 m] 53, blk d2 [.slice (some ⟨b0, 0, none⟩) vs.length c2, .int .i64 m] 62, row (some ⟨b0, 0, none⟩) vs.length c2 (ci .u64 vs) 63 1] := H_
  clear H_
  refine ql (.bool false) (by kernel_rfl) (by kernel_rfl) ?_
  refine wpList_nil ?_
  refine x_then ?_
  refine wp_seq ?_
  refine wp_block ?_
  refine wp_seq ?_
  refine rg_still HS 17 (by kernel_rfl) (by kernel_rfl) ?_
  intro W3 H_ HK_
  simp only [List.take_succ_cons, List.take_zero, List.drop_succ_cons, List.drop_zero]
  replace HS : St W M_ W3 [blk g1 [.pointer (some ⟨g, 0, none⟩)] 24, blk g [.pointer none, .pointer (some ⟨d, 0, none⟩), .int .i64 n] 53, blk d [.slice A ws.length c, .int .i64 n] 62, row A ws.length c (ci .u64 ws) 63 1, blk h [.pointer none, .pointer (some ⟨d2, 0, none⟩), .int .i64 m] 53, blk d2 [.slice (some ⟨b0, 0, none⟩) vs.length c2, .int .i64 m] 62, row (some ⟨b0, 0, none⟩) vs.length c2 (ci .u64 vs) 63 1] := H_
  clear H_
  clear HK_
  refine qs (.pointer (some ⟨g, 0, none⟩)) (by kernel_rfl) (R_load (p := ⟨g1, 0, none⟩) (by kernel_rfl) (by kernel_rfl) (by kernel_rfl) (HS.cell (i := 0) (j := 0) rfl rfl)) ?_
  refine qs (.bool false) (by kernel_rfl) (by kernel_rfl) ?_
  refine qs (.bool false) (by kernel_rfl) (by kernel_rfl) ?_
  refine qs (.pointer (some ⟨h, 0, none⟩)) (by kernel_rfl) (by kernel_rfl) ?_
  refine qs (.bool false) (by kernel_rfl) (by kernel_rfl) ?_
  refine qs (.bool false) (by kernel_rfl) (by kernel_rfl) ?_
  refine qs (.bool false) (by kernel_rfl) (by kernel_rfl) ?_
  refine qs (.pointer (some ⟨g, 0, none⟩)) (by kernel_rfl) (R_load (p := ⟨g1, 0, none⟩) (by kernel_rfl) (by kernel_rfl) (by kernel_rfl) (HS.cell (i := 0) (j := 0) rfl rfl)) ?_
  refine qs (.pointer (some ⟨g, 0, none⟩)) (by kernel_rfl) (by kernel_rfl) ?_
  refine qs (.pointer (some ⟨g, 2, none⟩)) (by kernel_rfl) (by kernel_rfl) ?_
  refine qs (.int .i64 n) (by kernel_rfl) (R_load (p := ⟨g, 2, none⟩) (by kernel_rfl) (by kernel_rfl) (by kernel_rfl) (HS.cell (i := 1) (j := 2) rfl rfl)) ?_
  refine qs (.pointer (some ⟨h, 0, none⟩)) (by kernel_rfl) (by kernel_rfl) ?_
  refine qs (.pointer (some ⟨h, 0, none⟩)) (by kernel_rfl) (by kernel_rfl) ?_
  refine qs (.pointer (some ⟨h, 2, none⟩)) (by kernel_rfl) (by kernel_rfl) ?_
  refine qs (.int .i64 m) (by kernel_rfl) (R_load (p := ⟨h, 2, none⟩) (by kernel_rfl) (by kernel_rfl) (by kernel_rfl) (HS.cell (i := 4) (j := 2) rfl rfl)) ?_
  refine qs (.bool true) (by kernel_rfl) (R_beq (b := (n != m)) (by kernel_rfl) (bne_t (by omega))) ?_
  refine qs (.bool true) (by kernel_rfl) (by kernel_rfl) ?_
  refine wpStill_nil ?_
  refine ql (.bool true) (by kernel_rfl) (by kernel_rfl) ?_
  refine wpList_nil ?_
  refine x_then ?_
  refine wp_cond_true (by kernel_rfl) ?_
  refine wp_seq ?_
  refine wp_region_lit ?_
  refine ql (.bool false) (by kernel_rfl) (by kernel_rfl) ?_
  refine wpList_nil ?_
  refine x_then ?_
  refine wp_ret ?_
  refine x_inbR ?_
  refine x_thenR ?_
  refine retM_ (.bool false) (by kernel_rfl) ?_
  replace HS := HS.drop1
  exact ⟨rfl, HS⟩

set_option maxRecDepth 100000 in
set_option maxHeartbeats 1000000 in
theorem mor_eq_mm (g d c : Nat) (A : Option Addr) (ws : List Int) (h d2 c2 b0 : Nat) (vs : List Int) (n : Int) (L M : List Int) (W : World) (M_ : Nat → Prop) (HS : St W M_ W [blk g [.pointer none, .pointer (some ⟨d, 0, none⟩), .int .i64 n] 53, blk d [.slice A ws.length c, .int .i64 n] 62, row A ws.length c (ci .u64 ws) 63 1, blk h [.pointer none, .pointer (some ⟨d2, 0, none⟩), .int .i64 n] 53, blk d2 [.slice (some ⟨b0, 0, none⟩) vs.length c2, .int .i64 n] 62, row (some ⟨b0, 0, none⟩) vs.length c2 (ci .u64 vs) 63 1]) (hR : Rep ws n L) (hnp : 0 < n) (hM : Rep vs n M) (h0 : 0 ≤ n) (hn : n ≤ 1048576) : Calls Tryd.prog 22 #[.pointer (some ⟨g, 0, none⟩), .pointer (some ⟨h, 0, none⟩)] W fun e W' => ∃ x', e = .returned (.bool (newB L M)) ∧ St W M_ W' (many (mxE 53 74 21 62 63 g n (uni L M) x') :: [blk h [.pointer none, .pointer (some ⟨d2, 0, none⟩), .int .i64 n] 53, blk d2 [.slice (some ⟨b0, 0, none⟩) vs.length c2, .int .i64 n] 62, row (some ⟨b0, 0, none⟩) vs.length c2 (ci .u64 vs) 63 1]) ∧ x'.ok n (uni L M) ∧ x'.b = true := by
  refine calls_enterM ((.pointer (some ⟨g, 0, none⟩)) :: (.pointer (some ⟨h, 0, none⟩)) :: undef :: undef :: undef :: undef :: undef :: undef :: undef :: undef :: undef :: undef :: undef :: undef :: undef :: undef :: undef :: undef :: undef :: undef :: undef :: undef :: undef :: undef :: undef :: undef :: undef :: undef :: undef :: undef :: undef :: undef :: undef :: undef :: undef :: undef :: undef :: undef :: undef :: undef :: undef :: undef :: undef :: undef :: undef :: undef :: undef :: undef :: undef :: undef :: undef :: undef :: undef :: undef :: undef :: undef :: undef :: undef :: undef :: undef :: undef :: undef :: undef :: undef :: undef :: undef :: undef :: undef :: undef :: undef :: undef :: undef :: undef :: undef :: undef :: undef :: undef :: undef :: undef :: undef :: undef :: undef :: undef :: undef :: undef :: undef :: undef :: undef :: undef :: undef :: undef :: undef :: undef :: undef :: undef :: undef :: undef :: undef :: undef :: undef :: undef :: undef :: undef :: undef :: undef :: undef :: undef :: undef :: undef :: undef :: undef :: undef :: undef :: undef :: undef :: undef :: undef :: undef :: undef :: undef :: undef :: undef :: undef :: undef :: undef :: undef :: undef :: undef :: undef :: []) Tryd.func22 rfl (by kernel_rfl) ?_
  refine wp_seq ?_
  refine wp_region_lit ?_
  refine kb HS [.pointer (some ⟨g, 0, none⟩)] 24 (fun g => .pointer (some ⟨g, 0, none⟩)) (by kernel_rfl) (by kernel_rfl) ?_
  intro g1 W2 H_
  replace HS : St W M_ W2 [blk g1 [.pointer (some ⟨g, 0, none⟩)] 24, blk g [.pointer none, .pointer (some ⟨d, 0, none⟩), .int .i64 n] 53, blk d [.slice A ws.length c, .int .i64 n] 62, row A ws.length c (ci .u64 ws) 63 1, blk h [.pointer none, .pointer (some ⟨d2, 0, none⟩), .int .i64 n] 53, blk d2 [.slice (some ⟨b0, 0, none⟩) vs.length c2, .int .i64 n] 62, row (some ⟨b0, 0, none⟩) vs.length c2 (ci .u64 vs) 63 1] := H_
  clear H_
  refine ql (.bool false) (by kernel_rfl) (by kernel_rfl) ?_
  refine wpList_nil ?_
  refine x_then ?_
  refine wp_seq ?_
  refine wp_block ?_
  refine wp_seq ?_
  refine rg_still HS 17 (by kernel_rfl) (by kernel_rfl) ?_
  intro W3 H_ HK_
  simp only [List.take_succ_cons, List.take_zero, List.drop_succ_cons, List.drop_zero]
  replace HS : St W M_ W3 [blk g1 [.pointer (some ⟨g, 0, none⟩)] 24, blk g [.pointer none, .pointer (some ⟨d, 0, none⟩), .int .i64 n] 53, blk d [.slice A ws.length c, .int .i64 n] 62, row A ws.length c (ci .u64 ws) 63 1, blk h [.pointer none, .pointer (some ⟨d2, 0, none⟩), .int .i64 n] 53, blk d2 [.slice (some ⟨b0, 0, none⟩) vs.length c2, .int .i64 n] 62, row (some ⟨b0, 0, none⟩) vs.length c2 (ci .u64 vs) 63 1] := H_
  clear H_
  clear HK_
  refine qs (.pointer (some ⟨g, 0, none⟩)) (by kernel_rfl) (R_load (p := ⟨g1, 0, none⟩) (by kernel_rfl) (by kernel_rfl) (by kernel_rfl) (HS.cell (i := 0) (j := 0) rfl rfl)) ?_
  refine qs (.bool false) (by kernel_rfl) (by kernel_rfl) ?_
  refine qs (.bool false) (by kernel_rfl) (by kernel_rfl) ?_
  refine qs (.pointer (some ⟨h, 0, none⟩)) (by kernel_rfl) (by kernel_rfl) ?_
  refine qs (.bool false) (by kernel_rfl) (by kernel_rfl) ?_
  refine qs (.bool false) (by kernel_rfl) (by kernel_rfl) ?_
  refine qs (.bool false) (by kernel_rfl) (by kernel_rfl) ?_
  refine qs (.pointer (some ⟨g, 0, none⟩)) (by kernel_rfl) (R_load (p := ⟨g1, 0, none⟩) (by kernel_rfl) (by kernel_rfl) (by kernel_rfl) (HS.cell (i := 0) (j := 0) rfl rfl)) ?_
  refine qs (.pointer (some ⟨g, 0, none⟩)) (by kernel_rfl) (by kernel_rfl) ?_
  refine qs (.pointer (some ⟨g, 2, none⟩)) (by kernel_rfl) (by kernel_rfl) ?_
  refine qs (.int .i64 n) (by kernel_rfl) (R_load (p := ⟨g, 2, none⟩) (by kernel_rfl) (by kernel_rfl) (by kernel_rfl) (HS.cell (i := 1) (j := 2) rfl rfl)) ?_
  refine qs (.pointer (some ⟨h, 0, none⟩)) (by kernel_rfl) (by kernel_rfl) ?_
  refine qs (.pointer (some ⟨h, 0, none⟩)) (by kernel_rfl) (by kernel_rfl) ?_
  refine qs (.pointer (some ⟨h, 2, none⟩)) (by kernel_rfl) (by kernel_rfl) ?_
  refine qs (.int .i64 n) (by kernel_rfl) (R_load (p := ⟨h, 2, none⟩) (by kernel_rfl) (by kernel_rfl) (by kernel_rfl) (HS.cell (i := 4) (j := 2) rfl rfl)) ?_
  refine qs (.bool false) (by kernel_rfl) (R_beq (b := (n != n)) (by kernel_rfl) (bne_f (by omega))) ?_
  refine qs (.bool false) (by kernel_rfl) (by kernel_rfl) ?_
  refine wpStill_nil ?_
  refine ql (.bool false) (by kernel_rfl) (by kernel_rfl) ?_
  refine wpList_nil ?_
  refine x_then ?_
  refine wp_cond_false (by kernel_rfl) ?_
  refine wp_seq ?_
  refine wp_region_lit ?_
  refine ql (.pointer (some ⟨g, 0, none⟩)) (by kernel_rfl) (R_load (p := ⟨g1, 0, none⟩) (by kernel_rfl) (by kernel_rfl) (by kernel_rfl) (HS.cell (i := 0) (j := 0) rfl rfl)) ?_
  refine ql (.pointer (some ⟨g, 0, none⟩)) (by kernel_rfl) (by kernel_rfl) ?_
  refine ql (.pointer (some ⟨g, 1, none⟩)) (by kernel_rfl) (by kernel_rfl) ?_
  refine ql (.pointer (some ⟨d, 0, none⟩)) (by kernel_rfl) (R_load (p := ⟨g, 1, none⟩) (by kernel_rfl) (by kernel_rfl) (by kernel_rfl) (HS.cell (i := 1) (j := 1) rfl rfl)) ?_
  refine ql (.bool true) (by kernel_rfl) (by kernel_rfl) ?_
  refine ql (.bool true) (by kernel_rfl) (by kernel_rfl) ?_
  refine ql (.pointer (some ⟨h, 0, none⟩)) (by kernel_rfl) (by kernel_rfl) ?_
  refine ql (.pointer (some ⟨h, 0, none⟩)) (by kernel_rfl) (by kernel_rfl) ?_
  refine ql (.pointer (some ⟨h, 1, none⟩)) (by kernel_rfl) (by kernel_rfl) ?_
  refine ql (.pointer (some ⟨d2, 0, none⟩)) (by kernel_rfl) (R_load (p := ⟨h, 1, none⟩) (by kernel_rfl) (by kernel_rfl) (by kernel_rfl) (HS.cell (i := 4) (j := 1) rfl rfl)) ?_
  refine ql (.bool true) (by kernel_rfl) (by kernel_rfl) ?_
  refine ql (.bool true) (by kernel_rfl) (by kernel_rfl) ?_
  refine ql (.bool true) (by kernel_rfl) (by kernel_rfl) ?_
  refine wpList_nil ?_
  refine x_then ?_
  refine wp_cond_true (by kernel_rfl) ?_
  refine wp_seq ?_
  replace HS : St W M_ W3 [blk d [.slice A ws.length c, .int .i64 n] 62, row A ws.length c (ci .u64 ws) 63 1, blk d2 [.slice (some ⟨b0, 0, none⟩) vs.length c2, .int .i64 n] 62, row (some ⟨b0, 0, none⟩) vs.length c2 (ci .u64 vs) 63 1, blk g1 [.pointer (some ⟨g, 0, none⟩)] 24, blk g [.pointer none, .pointer (some ⟨d, 0, none⟩), .int .i64 n] 53, blk h [.pointer none, .pointer (some ⟨d2, 0, none⟩), .int .i64 n] 53] := HS.perm (perm_ [2, 3, 5, 6, 0, 1, 4] (by kernel_rfl) rfl)
  refine rg_still HS 8 (by kernel_rfl) (by kernel_rfl) ?_
  intro W4 H_ HK_
  simp only [List.take_succ_cons, List.take_zero, List.drop_succ_cons, List.drop_zero]
  replace HS : St W M_ W4 [blk d [.slice A ws.length c, .int .i64 n] 62, row A ws.length c (ci .u64 ws) 63 1, blk d2 [.slice (some ⟨b0, 0, none⟩) vs.length c2, .int .i64 n] 62, row (some ⟨b0, 0, none⟩) vs.length c2 (ci .u64 vs) 63 1, blk g1 [.pointer (some ⟨g, 0, none⟩)] 24, blk g [.pointer none, .pointer (some ⟨d, 0, none⟩), .int .i64 n] 53, blk h [.pointer none, .pointer (some ⟨d2, 0, none⟩), .int .i64 n] 53] := H_
  clear H_
  clear HK_
  refine qs (.pointer (some ⟨g, 0, none⟩)) (by kernel_rfl) (R_load (p := ⟨g1, 0, none⟩) (by kernel_rfl) (by kernel_rfl) (by kernel_rfl) (HS.cell (i := 4) (j := 0) rfl rfl)) ?_
  refine qs (.pointer (some ⟨g, 0, none⟩)) (by kernel_rfl) (by kernel_rfl) ?_
  refine qs (.pointer (some ⟨g, 1, none⟩)) (by kernel_rfl) (by kernel_rfl) ?_
  refine qs (.pointer (some ⟨d, 0, none⟩)) (by kernel_rfl) (R_load (p := ⟨g, 1, none⟩) (by kernel_rfl) (by kernel_rfl) (by kernel_rfl) (HS.cell (i := 5) (j := 1) rfl rfl)) ?_
  refine qs (.pointer (some ⟨h, 0, none⟩)) (by kernel_rfl) (by kernel_rfl) ?_
  refine qs (.pointer (some ⟨h, 0, none⟩)) (by kernel_rfl) (by kernel_rfl) ?_
  refine qs (.pointer (some ⟨h, 1, none⟩)) (by kernel_rfl) (by kernel_rfl) ?_
  refine qs (.pointer (some ⟨d2, 0, none⟩)) (by kernel_rfl) (R_load (p := ⟨h, 1, none⟩) (by kernel_rfl) (by kernel_rfl) (by kernel_rfl) (HS.cell (i := 6) (j := 1) rfl rfl)) ?_
  refine wpStill_nil ?_
  refine qc (f := 40) (args := #[.pointer (some ⟨d, 0, none⟩), .pointer (some ⟨d2, 0, none⟩)]) (by kernel_rfl) (R_call #[.pointer (some ⟨d, 0, none⟩), .pointer (some ⟨d2, 0, none⟩)] Tryd.func40 (by kernel_rfl) (by kernel_rfl) (by kernel_rfl)) ?_
  refine (dor d c A ws n d2 c2 (some ⟨b0, 0, none⟩) vs L M _ _ (St.focus (F := [blk d [.slice A ws.length c, .int .i64 n] 62, row A ws.length c (ci .u64 ws) 63 1, blk d2 [.slice (some ⟨b0, 0, none⟩) vs.length c2, .int .i64 n] 62, row (some ⟨b0, 0, none⟩) vs.length c2 (ci .u64 vs) 63 1]) HS) hR hM hn).mono ?_
  rintro e W5 ⟨ws9, rfl, H_, hR9⟩
  refine ⟨_, rfl, ?_⟩
  replace HS : St W M_ W5 [blk d [.slice A ws9.length c, .int .i64 n] 62, row A ws9.length c (ci .u64 ws9) 63 1, blk d2 [.slice (some ⟨b0, 0, none⟩) vs.length c2, .int .i64 n] 62, row (some ⟨b0, 0, none⟩) vs.length c2 (ci .u64 vs) 63 1, blk g1 [.pointer (some ⟨g, 0, none⟩)] 24, blk g [.pointer none, .pointer (some ⟨d, 0, none⟩), .int .i64 n] 53, blk h [.pointer none, .pointer (some ⟨d2, 0, none⟩), .int .i64 n] 53] := HS.join (F := [blk d [.slice A ws.length c, .int .i64 n] 62, row A ws.length c (ci .u64 ws) 63 1, blk d2 [.slice (some ⟨b0, 0, none⟩) vs.length c2, .int .i64 n] 62, row (some ⟨b0, 0, none⟩) vs.length c2 (ci .u64 vs) 63 1]) (G := [blk d [.slice A ws9.length c, .int .i64 n] 62, row A ws9.length c (ci .u64 ws9) 63 1, blk d2 [.slice (some ⟨b0, 0, none⟩) vs.length c2, .int .i64 n] 62, row (some ⟨b0, 0, none⟩) vs.length c2 (ci .u64 vs) 63 1]) H_
  clear H_
  refine ql (.bool (newB L M)) (by kernel_rfl) (by kernel_rfl) ?_
  refine wpList_nil ?_
  refine x_then ?_
  refine wp_ret ?_
  refine x_inbR ?_
  refine x_thenR ?_
  refine retM_ (.bool (newB L M)) (by kernel_rfl) ?_
  replace HS : St W M_ W5 [blk g [.pointer none, .pointer (some ⟨d, 0, none⟩), .int .i64 n] 53, blk d [.slice A ws9.length c, .int .i64 n] 62, row A ws9.length c (ci .u64 ws9) 63 1, blk h [.pointer none, .pointer (some ⟨d2, 0, none⟩), .int .i64 n] 53, blk d2 [.slice (some ⟨b0, 0, none⟩) vs.length c2, .int .i64 n] 62, row (some ⟨b0, 0, none⟩) vs.length c2 (ci .u64 vs) 63 1] := St.tail (F := [blk g1 [.pointer (some ⟨g, 0, none⟩)] 24]) (HS.perm (perm_ [4, 5, 0, 1, 6, 2, 3] (by kernel_rfl) rfl))
  exact ⟨.mny d c A ws9, rfl, St.closeA (E := [blk g [.pointer none, .pointer (some ⟨d, 0, none⟩), .int .i64 n] 53, blk d [.slice A ws9.length c, .int .i64 n] 62, row A ws9.length c (ci .u64 ws9) 63 1]) HS, ⟨hR9, hnp⟩, rfl⟩

theorem mor (g h : Nat) (n m : Int) (L M : List Int) (x y : MxF) (W : World) (M_ : Nat → Prop) (HS : St W M_ W [many (mxE 53 74 21 62 63 g n L x), many (mxE 53 74 21 62 63 h m M y)]) (hx : x.ok n L) (hy : y.ok m M) (h0 : 0 ≤ n) (hn : n ≤ 1048576) : Calls Tryd.prog 22 #[.pointer (some ⟨g, 0, none⟩), .pointer (some ⟨h, 0, none⟩)] W fun e W' => ∃ x', e = .returned (.bool (if n = m then newB L M else false)) ∧ St W M_ W' [many (mxE 53 74 21 62 63 g n (if n = m then uni L M else L) x'), many (mxE 53 74 21 62 63 h m M y)] ∧ x'.ok n (if n = m then uni L M else L) ∧ x'.b = (x.b || (decide (n = m) && y.b) || decide (8 < (if n = m then uni L M else L).length)) := by
  by_cases hnm : n = m
  · subst hnm
    simp only [if_true, decide_true, Bool.true_and]
    rcases x with ⟨q, c, A⟩ | ⟨d, c, A, ws⟩
    · rcases y with ⟨q2, c2, B⟩ | ⟨d2, c2, B, vs⟩
      · have HS := HS.open2
        refine (mor_eq_ff g q c A h q2 c2 B n L M W M_ HS hx.1 hx.2.1 hx.2.2 hy.1 hy.2.1 hy.2.2 h0 hn).mono ?_
        rintro e W' ⟨x', rfl, H, hk, hb⟩
        exact ⟨x', rfl, St.close12 H, hk, by rw [hb]; simp [MxF.b]⟩
      · have HS := HS.open2
        obtain ⟨b0, rfl⟩ := St.rsome HS (i := 5) rfl (by have h1 := hy.1.len; have h2 := hy.2; omega)
        refine (mor_eq_fm g q c A h d2 c2 b0 vs n L M W M_ HS hx.1 hx.2.1 hx.2.2 hy.1 h0 hn hy.2).mono ?_
        rintro e W' ⟨x', rfl, H, hk, hb⟩
        exact ⟨x', rfl, St.close12 H, hk, by rw [hb]; simp [MxF.b]⟩
    · rcases y with ⟨q2, c2, B⟩ | ⟨d2, c2, B, vs⟩
      · have HS := HS.open2
        refine (mor_eq_mf g d c A ws h q2 c2 B n L M W M_ HS hx.1 hx.2 hy.1 hy.2.1 hy.2.2 h0 hn).mono ?_
        rintro e W' ⟨x', rfl, H, hk, hb⟩
        exact ⟨x', rfl, St.close12 H, hk, by rw [hb]; simp [MxF.b]⟩
      · have HS := HS.open2
        obtain ⟨b0, rfl⟩ := St.rsome HS (i := 5) rfl (by have h1 := hy.1.len; have h2 := hy.2; omega)
        refine (mor_eq_mm g d c A ws h d2 c2 b0 vs n L M W M_ HS hx.1 hx.2 hy.1 h0 hn).mono ?_
        rintro e W' ⟨x', rfl, H, hk, hb⟩
        exact ⟨x', rfl, St.close12 H, hk, by rw [hb]; simp [MxF.b]⟩
  · simp only [if_neg hnm, decide_eq_false hnm, Bool.false_and, Bool.or_false]
    rcases x with ⟨q, c, A⟩ | ⟨d, c, A, ws⟩
    · rcases y with ⟨q2, c2, B⟩ | ⟨d2, c2, B, vs⟩
      · have HS := HS.open2
        refine (mor_ne_ff g q c A h q2 c2 B n m L M W M_ HS hnm).mono ?_
        rintro e W' ⟨rfl, H⟩
        exact ⟨.few q c A, rfl, St.close2 (E := [blk g [.pointer (some ⟨q, 0, none⟩), .pointer none, .int .i64 n] 53, blk q [.slice A L.length c] 74, row A L.length c (ci .i32 L) 21 1]) H, hx, b_orF hx⟩
      · have HS := HS.open2
        obtain ⟨b0, rfl⟩ := St.rsome HS (i := 5) rfl (by have h1 := hy.1.len; have h2 := hy.2; omega)
        refine (mor_ne_fm g q c A h d2 c2 b0 vs n m L M W M_ HS hnm).mono ?_
        rintro e W' ⟨rfl, H⟩
        exact ⟨.few q c A, rfl, St.close2 (E := [blk g [.pointer (some ⟨q, 0, none⟩), .pointer none, .int .i64 n] 53, blk q [.slice A L.length c] 74, row A L.length c (ci .i32 L) 21 1]) H, hx, b_orF hx⟩
    · rcases y with ⟨q2, c2, B⟩ | ⟨d2, c2, B, vs⟩
      · have HS := HS.open2
        refine (mor_ne_mf g d c A ws h q2 c2 B n m L M W M_ HS hnm).mono ?_
        rintro e W' ⟨rfl, H⟩
        exact ⟨.mny d c A ws, rfl, St.close2 (E := [blk g [.pointer none, .pointer (some ⟨d, 0, none⟩), .int .i64 n] 53, blk d [.slice A ws.length c, .int .i64 n] 62, row A ws.length c (ci .u64 ws) 63 1]) H, hx, b_orF hx⟩
      · have HS := HS.open2
        obtain ⟨b0, rfl⟩ := St.rsome HS (i := 5) rfl (by have h1 := hy.1.len; have h2 := hy.2; omega)
        refine (mor_ne_mm g d c A ws h d2 c2 b0 vs n m L M W M_ HS hnm).mono ?_
        rintro e W' ⟨rfl, H⟩
        exact ⟨.mny d c A ws, rfl, St.close2 (E := [blk g [.pointer none, .pointer (some ⟨d, 0, none⟩), .int .i64 n] 53, blk d [.slice A ws.length c, .int .i64 n] 62, row A ws.length c (ci .u64 ws) 63 1]) H, hx, b_orF hx⟩

set_option maxRecDepth 100000 in
set_option maxHeartbeats 1000000 in
theorem mall_few (g q c : Nat) (A : Option Addr) (n : Int) (L : List Int) (W : World) (hz0 : W.cell? ⟨g, 0, none⟩ = some (.pointer (some ⟨q, 0, none⟩))) (hz1 : W.cell? ⟨g, 1, none⟩ = some (.pointer none)) (hz2 : W.cell? ⟨g, 2, none⟩ = some (.int .i64 n)) (hq0 : W.cell? ⟨q, 0, none⟩ = some (.slice A L.length c)) (hr : Rd W A (ci .i32 L)) (hs : S31 L) (hl : L.length ≤ 100000) : Calls Tryd.prog 38 #[.pointer (some ⟨g, 0, none⟩)] W fun e W' => ∃ b, e = .returned (.func (.func 53) #[] #[.pointer (some ⟨b, 0, none⟩)]) ∧ St W (owns []) W' [blk b [.pointer (some ⟨q, 0, none⟩)] 50] := by
  have HS : St W (owns []) W [] := St.start W _
  refine calls_enter [.pointer (some ⟨g, 0, none⟩), undef, undef, undef, undef, undef, undef, undef, undef, undef, undef, undef, undef, undef, undef, undef, undef, undef] Tryd.func38 rfl (by kernel_rfl) ?_
  refine wp_seq ?_
  refine wp_region_lit ?_
  refine ql (.nilFunc) (by kernel_rfl) (by kernel_rfl) ?_
  refine wpList_nil ?_
  refine x_then ?_
  refine wp_seq ?_
  refine wp_seq ?_
  refine wp_region_lit ?_
  refine ql (.pointer (some ⟨g, 0, none⟩)) (by kernel_rfl) (by kernel_rfl) ?_
  refine qc (f := 23) (args := #[.pointer (some ⟨g, 0, none⟩)]) (by kernel_rfl) (R_call #[.pointer (some ⟨g, 0, none⟩)] Tryd.func23 (by kernel_rfl) (by kernel_rfl) (by kernel_rfl)) ?_
  refine (mdense_few g q c A n L _ (HS.old0 hz0) (HS.old0 hz1) (HS.old0 hz2) (HS.old0 hq0) (hr.old0 HS) hs hl).mono ?_
  rintro e W1 ⟨rfl, H_⟩
  refine ⟨_, rfl, ?_⟩
  replace HS : St W (owns []) W1 [] := HS.join (F := []) (G := []) H_
  clear H_
  refine wpList_nil ?_
  refine x_then ?_
  refine wp_cond_false (by kernel_rfl) ?_
  refine wp_skip ?_
  refine x_then ?_
  refine wp_seq ?_
  refine wp_seq ?_
  refine wp_region_lit ?_
  refine ql (.pointer (some ⟨g, 0, none⟩)) (by kernel_rfl) (by kernel_rfl) ?_
  refine ql (.bool false) (by kernel_rfl) (by kernel_rfl) ?_
  refine wpList_nil ?_
  refine x_then ?_
  refine wp_cond_false (by kernel_rfl) ?_
  refine wp_skip ?_
  refine x_then ?_
  refine wp_seq ?_
  refine wp_region_lit ?_
  refine ql (.pointer (some ⟨g, 0, none⟩)) (by kernel_rfl) (by kernel_rfl) ?_
  refine ql (.pointer (some ⟨g, 0, none⟩)) (by kernel_rfl) (by kernel_rfl) ?_
  refine ql (.pointer (some ⟨g, 0, none⟩)) (by kernel_rfl) (by kernel_rfl) ?_
  refine ql (.pointer (some ⟨q, 0, none⟩)) (by kernel_rfl) (R_load (p := ⟨g, 0, none⟩) (by kernel_rfl) (by kernel_rfl) (by kernel_rfl) (HS.old0 hz0)) ?_
  refine qc (f := 43) (args := #[.pointer (some ⟨q, 0, none⟩)]) (by kernel_rfl) (R_call #[.pointer (some ⟨q, 0, none⟩)] Tryd.func43 (by kernel_rfl) (by kernel_rfl) (by kernel_rfl)) ?_
  refine (sall q _).mono ?_
  rintro e W3 ⟨b2, rfl, H_⟩
  refine ⟨_, rfl, ?_⟩
  replace HS : St W (owns []) W3 [blk b2 [.pointer (some ⟨q, 0, none⟩)] 50] := HS.join (F := []) (G := [blk b2 [.pointer (some ⟨q, 0, none⟩)] 50]) H_
  clear H_
  refine ql (.func (.func 53) #[] #[.pointer (some ⟨b2, 0, none⟩)]) (by kernel_rfl) (by kernel_rfl) ?_
  refine wpList_nil ?_
  refine x_then ?_
  refine wp_ret ?_
  refine ret_ (.func (.func 53) #[] #[.pointer (some ⟨b2, 0, none⟩)]) (by kernel_rfl) ?_
  exact ⟨_, rfl, HS⟩

set_option maxRecDepth 100000 in
set_option maxHeartbeats 1000000 in
theorem mlist_few (g q c : Nat) (A : Option Addr) (n : Int) (L : List Int) (W : World) (hz0 : W.cell? ⟨g, 0, none⟩ = some (.pointer (some ⟨q, 0, none⟩))) (hz1 : W.cell? ⟨g, 1, none⟩ = some (.pointer none)) (hz2 : W.cell? ⟨g, 2, none⟩ = some (.int .i64 n)) (hq0 : W.cell? ⟨q, 0, none⟩ = some (.slice A L.length c)) (hr : Rd W A (ci .i32 L)) (hs : S31 L) (hl : L.length ≤ 100000) (hT : TabAt64 W) : Calls Tryd.prog 19 #[.pointer (some ⟨g, 0, none⟩)] W fun e W' => ∃ A' c', e = .returned (.slice A' L.length c') ∧ St W (owns []) W' [row A' L.length c' (ci .i64 L) 3 1] := by
  have HS : St W (owns []) W [] := St.start W _
  refine calls_enter [.pointer (some ⟨g, 0, none⟩), undef, undef, undef, undef, undef] Tryd.func19 rfl (by kernel_rfl) ?_
  refine wp_seq ?_
  refine wp_region_lit ?_
  refine ql (.slice none 0 0) (by kernel_rfl) (by kernel_rfl) ?_
  refine wpList_nil ?_
  refine x_then ?_
  refine wp_seq ?_
  refine wp_region_lit ?_
  refine ql (.pointer (some ⟨g, 0, none⟩)) (by kernel_rfl) (by kernel_rfl) ?_
  refine qc (f := 38) (args := #[.pointer (some ⟨g, 0, none⟩)]) (by kernel_rfl) (R_call #[.pointer (some ⟨g, 0, none⟩)] Tryd.func38 (by kernel_rfl) (by kernel_rfl) (by kernel_rfl)) ?_
  refine (mall_few g q c A n L _ (HS.old0 hz0) (HS.old0 hz1) (HS.old0 hz2) (HS.old0 hq0) (hr.old0 HS) hs hl).mono ?_
  rintro e W2 ⟨b1, rfl, H_⟩
  refine ⟨_, rfl, ?_⟩
  replace HS : St W (owns []) W2 [blk b1 [.pointer (some ⟨q, 0, none⟩)] 50] := HS.join (F := []) (G := [blk b1 [.pointer (some ⟨q, 0, none⟩)] 50]) H_
  clear H_
  refine qc (f := 37) (args := #[.func (.func 53) #[] #[.pointer (some ⟨b1, 0, none⟩)]]) (by kernel_rfl) (R_call #[.func (.func 53) #[] #[.pointer (some ⟨b1, 0, none⟩)]] Tryd.func37 (by kernel_rfl) (by kernel_rfl) (by kernel_rfl)) ?_
  have HDT : SpT b1 q c A L _ := ⟨HS.cell (i := 0) (j := 0) rfl rfl, HS.old0 hq0, hr.old0 HS⟩
  refine (colS 53 #[.pointer (some ⟨b1, 0, none⟩)] _ (enters_of Tryd.func53 (by kernel_rfl) rfl) (sall_stops b1 q c A L _ HDT.hb HDT.h0 HDT.hr hs hl 0) (fun h_ k_ => fun x_ => k_ (h_ x_)) (fun X Y hb_ => SpK.of HDT hb_) (by omega)).mono ?_
  rintro e W3 ⟨A8, c8, xs8, hS8, rfl, H_⟩
  have hS8 : L = xs8 := hS8.symm
  subst hS8
  refine ⟨_, rfl, ?_⟩
  replace HS : St W (owns []) W3 [row A8 L.length c8 (ci .i64 L) 3 1, blk b1 [.pointer (some ⟨q, 0, none⟩)] 50] := HS.join (F := []) (G := [row A8 L.length c8 (ci .i64 L) 3 1]) H_
  clear H_
  refine ql (.slice A8 L.length c8) (by kernel_rfl) (by kernel_rfl) ?_
  refine wpList_nil ?_
  refine x_then ?_
  refine wp_ret ?_
  refine ret_ (.slice A8 L.length c8) (by kernel_rfl) ?_
  replace HS : St W (owns []) W3 [row A8 L.length c8 (ci .i64 L) 3 1] := St.tail (F := [blk b1 [.pointer (some ⟨q, 0, none⟩)] 50]) (HS.perm (perm_ [1, 0] (by kernel_rfl) rfl))
  exact ⟨A8, c8, rfl, HS⟩

set_option maxRecDepth 100000 in
set_option maxHeartbeats 1000000 in
theorem mall_mny (g d c : Nat) (A : Option Addr) (ws : List Int) (n : Int) (L : List Int) (W : World) (hz0 : W.cell? ⟨g, 0, none⟩ = some (.pointer none)) (hz1 : W.cell? ⟨g, 1, none⟩ = some (.pointer (some ⟨d, 0, none⟩))) (hz2 : W.cell? ⟨g, 2, none⟩ = some (.int .i64 n)) (hd0 : W.cell? ⟨d, 0, none⟩ = some (.slice A ws.length c)) (hd1 : W.cell? ⟨d, 1, none⟩ = some (.int .i64 n)) (hr : Rd W A (ci .u64 ws)) (hR : Rep ws n L) (hn : n ≤ 1048576) (h0 : 0 ≤ n) : Calls Tryd.prog 38 #[.pointer (some ⟨g, 0, none⟩)] W fun e W' => ∃ b, e = .returned (.func (.func 50) #[] #[.pointer (some ⟨b, 0, none⟩)]) ∧ St W (owns []) W' [blk b [.pointer (some ⟨d, 0, none⟩)] 40] := by
  have HS : St W (owns []) W [] := St.start W _
  refine calls_enter [.pointer (some ⟨g, 0, none⟩), undef, undef, undef, undef, undef, undef, undef, undef, undef, undef, undef, undef, undef, undef, undef, undef, undef] Tryd.func38 rfl (by kernel_rfl) ?_
  refine wp_seq ?_
  refine wp_region_lit ?_
  refine ql (.nilFunc) (by kernel_rfl) (by kernel_rfl) ?_
  refine wpList_nil ?_
  refine x_then ?_
  refine wp_seq ?_
  refine wp_seq ?_
  refine wp_region_lit ?_
  refine ql (.pointer (some ⟨g, 0, none⟩)) (by kernel_rfl) (by kernel_rfl) ?_
  refine qc (f := 23) (args := #[.pointer (some ⟨g, 0, none⟩)]) (by kernel_rfl) (R_call #[.pointer (some ⟨g, 0, none⟩)] Tryd.func23 (by kernel_rfl) (by kernel_rfl) (by kernel_rfl)) ?_
  refine (mdense_mny g d c A ws n L _ (HS.old0 hz0) (HS.old0 hz1) (HS.old0 hz2) (HS.old0 hd0) (HS.old0 hd1) (hr.old0 HS) hR hn h0).mono ?_
  rintro e W1 ⟨rfl, H_⟩
  refine ⟨_, rfl, ?_⟩
  replace HS : St W (owns []) W1 [] := HS.join (F := []) (G := []) H_
  clear H_
  refine wpList_nil ?_
  refine x_then ?_
  refine wp_cond_true (by kernel_rfl) ?_
  refine wp_seq ?_
  refine wp_region_lit ?_
  refine ql (.pointer (some ⟨g, 0, none⟩)) (by kernel_rfl) (by kernel_rfl) ?_
  refine ql (.pointer (some ⟨g, 0, none⟩)) (by kernel_rfl) (by kernel_rfl) ?_
  refine ql (.pointer (some ⟨g, 1, none⟩)) (by kernel_rfl) (by kernel_rfl) ?_
  refine ql (.pointer (some ⟨d, 0, none⟩)) (by kernel_rfl) (R_load (p := ⟨g, 1, none⟩) (by kernel_rfl) (by kernel_rfl) (by kernel_rfl) (HS.old0 hz1)) ?_
  refine qc (f := 39) (args := #[.pointer (some ⟨d, 0, none⟩)]) (by kernel_rfl) (R_call #[.pointer (some ⟨d, 0, none⟩)] Tryd.func39 (by kernel_rfl) (by kernel_rfl) (by kernel_rfl)) ?_
  refine (dall d _).mono ?_
  rintro e W3 ⟨b2, rfl, H_⟩
  refine ⟨_, rfl, ?_⟩
  replace HS : St W (owns []) W3 [blk b2 [.pointer (some ⟨d, 0, none⟩)] 40] := HS.join (F := []) (G := [blk b2 [.pointer (some ⟨d, 0, none⟩)] 40]) H_
  clear H_
  refine ql (.func (.func 50) #[] #[.pointer (some ⟨b2, 0, none⟩)]) (by kernel_rfl) (by kernel_rfl) ?_
  refine wpList_nil ?_
  refine x_then ?_
  refine wp_ret ?_
  refine x_thenR ?_
  refine ret_ (.func (.func 50) #[] #[.pointer (some ⟨b2, 0, none⟩)]) (by kernel_rfl) ?_
  exact ⟨_, rfl, HS⟩

set_option maxRecDepth 100000 in
set_option maxHeartbeats 1000000 in
theorem mlist_mny (g d c : Nat) (A : Option Addr) (ws : List Int) (n : Int) (L : List Int) (W : World) (hz0 : W.cell? ⟨g, 0, none⟩ = some (.pointer none)) (hz1 : W.cell? ⟨g, 1, none⟩ = some (.pointer (some ⟨d, 0, none⟩))) (hz2 : W.cell? ⟨g, 2, none⟩ = some (.int .i64 n)) (hd0 : W.cell? ⟨d, 0, none⟩ = some (.slice A ws.length c)) (hd1 : W.cell? ⟨d, 1, none⟩ = some (.int .i64 n)) (hr : Rd W A (ci .u64 ws)) (hR : Rep ws n L) (hn : n ≤ 1048576) (h0 : 0 ≤ n) (hT : TabAt64 W) : Calls Tryd.prog 19 #[.pointer (some ⟨g, 0, none⟩)] W fun e W' => ∃ A' c', e = .returned (.slice A' L.length c') ∧ St W (owns []) W' [row A' L.length c' (ci .i64 L) 3 1] := by
  have HS : St W (owns []) W [] := St.start W _
  refine calls_enter [.pointer (some ⟨g, 0, none⟩), undef, undef, undef, undef, undef] Tryd.func19 rfl (by kernel_rfl) ?_
  refine wp_seq ?_
  refine wp_region_lit ?_
  refine ql (.slice none 0 0) (by kernel_rfl) (by kernel_rfl) ?_
  refine wpList_nil ?_
  refine x_then ?_
  refine wp_seq ?_
  refine wp_region_lit ?_
  refine ql (.pointer (some ⟨g, 0, none⟩)) (by kernel_rfl) (by kernel_rfl) ?_
  refine qc (f := 38) (args := #[.pointer (some ⟨g, 0, none⟩)]) (by kernel_rfl) (R_call #[.pointer (some ⟨g, 0, none⟩)] Tryd.func38 (by kernel_rfl) (by kernel_rfl) (by kernel_rfl)) ?_
  refine (mall_mny g d c A ws n L _ (HS.old0 hz0) (HS.old0 hz1) (HS.old0 hz2) (HS.old0 hd0) (HS.old0 hd1) (hr.old0 HS) hR hn h0).mono ?_
  rintro e W2 ⟨b1, rfl, H_⟩
  refine ⟨_, rfl, ?_⟩
  replace HS : St W (owns []) W2 [blk b1 [.pointer (some ⟨d, 0, none⟩)] 40] := HS.join (F := []) (G := [blk b1 [.pointer (some ⟨d, 0, none⟩)] 40]) H_
  clear H_
  refine qc (f := 37) (args := #[.func (.func 50) #[] #[.pointer (some ⟨b1, 0, none⟩)]]) (by kernel_rfl) (R_call #[.func (.func 50) #[] #[.pointer (some ⟨b1, 0, none⟩)]] Tryd.func37 (by kernel_rfl) (by kernel_rfl) (by kernel_rfl)) ?_
  have HDT : DnT b1 d c A ws n _ := ⟨⟨HS.cell (i := 0) (j := 0) rfl rfl, HS.old0 hd0, HS.old0 hd1, hr.old0 HS⟩, hT.old0 HS⟩
  have hll := hR.llen
  refine (colS 50 #[.pointer (some ⟨b1, 0, none⟩)] _ (enters_of Tryd.func50 (by kernel_rfl) rfl) (dall_stops b1 d c A ws n L _ HDT.1.hb HDT.1.h0 HDT.1.h1 HDT.1.hr hR hn HDT.2 0) (fun h_ k_ => fun x_ => k_ (h_ x_)) (fun X Y hb_ => DnK.of HDT hb_) (by omega)).mono ?_
  rintro e W3 ⟨A8, c8, xs8, hS8, rfl, H_⟩
  have hS8 : L = xs8 := hS8.symm
  subst hS8
  refine ⟨_, rfl, ?_⟩
  replace HS : St W (owns []) W3 [row A8 L.length c8 (ci .i64 L) 3 1, blk b1 [.pointer (some ⟨d, 0, none⟩)] 40] := HS.join (F := []) (G := [row A8 L.length c8 (ci .i64 L) 3 1]) H_
  clear H_
  refine ql (.slice A8 L.length c8) (by kernel_rfl) (by kernel_rfl) ?_
  refine wpList_nil ?_
  refine x_then ?_
  refine wp_ret ?_
  refine ret_ (.slice A8 L.length c8) (by kernel_rfl) ?_
  replace HS : St W (owns []) W3 [row A8 L.length c8 (ci .i64 L) 3 1] := St.tail (F := [blk b1 [.pointer (some ⟨d, 0, none⟩)] 40]) (HS.perm (perm_ [1, 0] (by kernel_rfl) rfl))
  exact ⟨A8, c8, rfl, HS⟩

set_option maxRecDepth 100000 in
set_option maxHeartbeats 1000000 in
theorem r5add_t (A : Option Addr) (c : Nat) (L : List Int) (n i : Int) (W : World) (M_ : Nat → Prop) (HS : St W M_ W [row A L.length c (ci .i64 L) 3 1]) (hl : L.length ≤ 50000) : Calls Tryd.prog 26 #[.agg #[.int .i64 n, .slice A L.length c, .bool true], .int .i64 i] W fun e W' => ∃ A' c', e = .returned (.tuple #[.agg #[.int .i64 n, .slice A' (addL n L i).length c', .bool (true || decide (8 < (addL n L i).length))], .bool (addB n L i)]) ∧ St W M_ W' [row A' ((addL n L i).length) c' (ci .i64 (addL n L i)) 3 1] := by
  refine calls_enter [.agg #[.int .i64 n, .slice A L.length c, .bool true], .int .i64 i, undef, undef, undef, undef, undef, undef, undef, undef, undef, undef, undef, undef, undef, undef, undef, undef, undef, undef, undef, undef, undef, undef, undef, undef] Tryd.func26 rfl (by kernel_rfl) ?_
  have hal := addL_len n i L
  refine wp_seq ?_
  refine wp_region_lit ?_
  refine kb HS [.int .i64 n, .slice A L.length c, .bool true] 32 (fun g => .pointer (some ⟨g, 0, none⟩)) (by kernel_rfl) (by kernel_rfl) ?_
  intro g1 W2 H_
  replace HS : St W M_ W2 [blk g1 [.int .i64 n, .slice A L.length c, .bool true] 32, row A L.length c (ci .i64 L) 3 1] := H_
  clear H_
  refine kb HS [.int .i64 0, .slice none 0 0, .bool false] 32 (fun g => .pointer (some ⟨g, 0, none⟩)) (by kernel_rfl) (by kernel_rfl) ?_
  intro g3 W4 H_
  replace HS : St W M_ W4 [blk g3 [.int .i64 0, .slice none 0 0, .bool false] 32, blk g1 [.int .i64 n, .slice A L.length c, .bool true] 32, row A L.length c (ci .i64 L) 3 1] := H_
  clear H_
  refine ql (.bool false) (by kernel_rfl) (by kernel_rfl) ?_
  refine wpList_nil ?_
  refine x_then ?_
  refine wp_seq ?_
  refine wp_region_lit ?_
  refine ql (.pointer (some ⟨g1, 0, none⟩)) (by kernel_rfl) (by kernel_rfl) ?_
  refine ql (.agg #[.int .i64 n, .slice A L.length c]) (by kernel_rfl) (R_loadN (p := ⟨g1, 0, none⟩) [.int .i64 n, .slice A L.length c] (by kernel_rfl) (by kernel_rfl) (by kernel_rfl) (by kernel_rfl) (two_at (HS.cell (i := 1) (j := 0) rfl rfl) (HS.cell (i := 1) (j := 1) rfl rfl))) ?_
  refine ql (.int .i64 i) (by kernel_rfl) (by kernel_rfl) ?_
  refine qc (f := 44) (args := #[.agg #[.int .i64 n, .slice A L.length c], .int .i64 i]) (by kernel_rfl) (R_call #[.agg #[.int .i64 n, .slice A L.length c], .int .i64 i] Tryd.func44 (by kernel_rfl) (by kernel_rfl) (by kernel_rfl)) ?_
  replace HS : St W M_ W4 [row A L.length c (ci .i64 L) 3 1, blk g3 [.int .i64 0, .slice none 0 0, .bool false] 32, blk g1 [.int .i64 n, .slice A L.length c, .bool true] 32] := HS.perm (perm_ [2, 0, 1] (by kernel_rfl) rfl)
  refine (r3add A c L n i _ _ (St.focus (F := [row A L.length c (ci .i64 L) 3 1]) HS) (by omega)).mono ?_
  rintro e W7 ⟨A5, c6, rfl, H_⟩
  refine ⟨_, rfl, ?_⟩
  replace HS : St W M_ W7 [row A5 ((addL n L i).length) c6 (ci .i64 (addL n L i)) 3 1, blk g3 [.int .i64 0, .slice none 0 0, .bool false] 32, blk g1 [.int .i64 n, .slice A L.length c, .bool true] 32] := HS.join (F := [row A L.length c (ci .i64 L) 3 1]) (G := [row A5 ((addL n L i).length) c6 (ci .i64 (addL n L i)) 3 1]) H_
  clear H_
  refine ql (.tuple #[.agg #[.int .i64 n, .slice A5 ((addL n L i).length) c6], .bool (addB n L i)]) (by kernel_rfl) (by kernel_rfl) ?_
  refine ql (.agg #[.int .i64 n, .slice A5 ((addL n L i).length) c6]) (by kernel_rfl) (by kernel_rfl) ?_
  refine ql (.bool (addB n L i)) (by kernel_rfl) (by kernel_rfl) ?_
  refine kb HS [.int .i64 0, .slice none 0 0] 30 (fun g => .pointer (some ⟨g, 0, none⟩)) (by kernel_rfl) (by kernel_rfl) ?_
  intro g8 W9 H_
  replace HS : St W M_ W9 [blk g8 [.int .i64 0, .slice none 0 0] 30, row A5 ((addL n L i).length) c6 (ci .i64 (addL n L i)) 3 1, blk g3 [.int .i64 0, .slice none 0 0, .bool false] 32, blk g1 [.int .i64 n, .slice A L.length c, .bool true] 32] := H_
  clear H_
  refine ks (v := .agg #[.int .i64 n, .slice A5 ((addL n L i).length) c6]) HS 0 rfl (0) [.int .i64 n, .slice A5 ((addL n L i).length) c6] (by kernel_rfl) (by kernel_rfl) (by kernel_rfl) (by kernel_rfl) (by kernel_rfl) (one_ (by kernel_rfl)) (Nat.le_of_ble_eq_true rfl) rfl ?_
  intro W10 H_
  replace HS : St W M_ W10 [blk g8 [.int .i64 n, .slice A5 ((addL n L i).length) c6] 30, row A5 ((addL n L i).length) c6 (ci .i64 (addL n L i)) 3 1, blk g3 [.int .i64 0, .slice none 0 0, .bool false] 32, blk g1 [.int .i64 n, .slice A L.length c, .bool true] 32] := H_
  clear H_
  refine ql (.bool (addB n L i)) (by kernel_rfl) (by kernel_rfl) ?_
  refine wpList_nil ?_
  refine x_then ?_
  refine wp_seq ?_
  refine wp_region_lit ?_
  refine ql (.agg #[.int .i64 n, .slice A5 ((addL n L i).length) c6]) (by kernel_rfl) (R_loadN (p := ⟨g8, 0, none⟩) [.int .i64 n, .slice A5 ((addL n L i).length) c6] (by kernel_rfl) (by kernel_rfl) (by kernel_rfl) (by kernel_rfl) (two_at (HS.cell (i := 0) (j := 0) rfl rfl) (HS.cell (i := 0) (j := 1) rfl rfl))) ?_
  refine ql (.pointer (some ⟨g1, 2, none⟩)) (by kernel_rfl) (by kernel_rfl) ?_
  refine ql (.bool true) (by kernel_rfl) (R_load (p := ⟨g1, 2, none⟩) (by kernel_rfl) (by kernel_rfl) (by kernel_rfl) (HS.cell (i := 3) (j := 2) rfl rfl)) ?_
  refine ql (.bool true) (by kernel_rfl) (by kernel_rfl) ?_
  refine qln (by kernel_rfl) ?_
  refine qln (by kernel_rfl) ?_
  refine qln (by kernel_rfl) ?_
  refine qln (by kernel_rfl) ?_
  refine ql (.bool true) (by kernel_rfl) (by kernel_rfl) ?_
  refine ql (.agg #[.int .i64 n, .slice A5 ((addL n L i).length) c6, .bool true]) (by kernel_rfl) (by kernel_rfl) ?_
  refine ql (.bool (addB n L i)) (by kernel_rfl) (by kernel_rfl) ?_
  refine ks (v := .agg #[.int .i64 n, .slice A5 ((addL n L i).length) c6, .bool true]) HS 2 rfl (0) [.int .i64 n, .slice A5 ((addL n L i).length) c6, .bool true] (by kernel_rfl) (by kernel_rfl) (by kernel_rfl) (by kernel_rfl) (by kernel_rfl) (one_ (by kernel_rfl)) (Nat.le_of_ble_eq_true rfl) rfl ?_
  intro W11 H_
  replace HS : St W M_ W11 [blk g8 [.int .i64 n, .slice A5 ((addL n L i).length) c6] 30, row A5 ((addL n L i).length) c6 (ci .i64 (addL n L i)) 3 1, blk g3 [.int .i64 n, .slice A5 ((addL n L i).length) c6, .bool true] 32, blk g1 [.int .i64 n, .slice A L.length c, .bool true] 32] := H_
  clear H_
  refine ql (.bool (addB n L i)) (by kernel_rfl) (by kernel_rfl) ?_
  refine wpList_nil ?_
  refine x_then ?_
  refine wp_ret ?_
  refine ret_ (.tuple #[.agg #[.int .i64 n, .slice A5 ((addL n L i).length) c6, .bool true], .bool (addB n L i)]) (res2 rfl (oneRes_agg (p := ⟨g3, 0, none⟩) [.int .i64 n, .slice A5 ((addL n L i).length) c6, .bool true] (by kernel_rfl) (by kernel_rfl) (by kernel_rfl) (by kernel_rfl) (HS.cellsN (i := 2) rfl)) (oneRes_t (by kernel_rfl))) ?_
  replace HS : St W M_ W11 [row A5 ((addL n L i).length) c6 (ci .i64 (addL n L i)) 3 1] := St.tail (F := [blk g8 [.int .i64 n, .slice A5 ((addL n L i).length) c6] 30, blk g3 [.int .i64 n, .slice A5 ((addL n L i).length) c6, .bool true] 32, blk g1 [.int .i64 n, .slice A L.length c, .bool true] 32]) (HS.perm (perm_ [0, 2, 3, 1] (by kernel_rfl) rfl))
  have hbv : (true || decide (8 < (addL n L i).length)) = true := by first | rfl | (simp only [Bool.true_or, Bool.false_or, Bool.or_false, Bool.or_true]; done) | (simp only [Bool.true_or, Bool.false_or, Bool.or_false, Bool.or_true]; exact decide_eq_true (by omega))
  exact ⟨_, _, by rw [hbv], HS⟩

set_option maxRecDepth 100000 in
set_option maxHeartbeats 1000000 in
theorem r5add_f (A : Option Addr) (c : Nat) (L : List Int) (n i : Int) (W : World) (M_ : Nat → Prop) (HS : St W M_ W [row A L.length c (ci .i64 L) 3 1]) (hl : L.length ≤ 50000) : Calls Tryd.prog 26 #[.agg #[.int .i64 n, .slice A L.length c, .bool false], .int .i64 i] W fun e W' => ∃ A' c', e = .returned (.tuple #[.agg #[.int .i64 n, .slice A' (addL n L i).length c', .bool (false || decide (8 < (addL n L i).length))], .bool (addB n L i)]) ∧ St W M_ W' [row A' ((addL n L i).length) c' (ci .i64 (addL n L i)) 3 1] := by
  refine calls_enter [.agg #[.int .i64 n, .slice A L.length c, .bool false], .int .i64 i, undef, undef, undef, undef, undef, undef, undef, undef, undef, undef, undef, undef, undef, undef, undef, undef, undef, undef, undef, undef, undef, undef, undef, undef] Tryd.func26 rfl (by kernel_rfl) ?_
  have hal := addL_len n i L
  refine wp_seq ?_
  refine wp_region_lit ?_
  refine kb HS [.int .i64 n, .slice A L.length c, .bool false] 32 (fun g => .pointer (some ⟨g, 0, none⟩)) (by kernel_rfl) (by kernel_rfl) ?_
  intro g1 W2 H_
  replace HS : St W M_ W2 [blk g1 [.int .i64 n, .slice A L.length c, .bool false] 32, row A L.length c (ci .i64 L) 3 1] := H_
  clear H_
  refine kb HS [.int .i64 0, .slice none 0 0, .bool false] 32 (fun g => .pointer (some ⟨g, 0, none⟩)) (by kernel_rfl) (by kernel_rfl) ?_
  intro g3 W4 H_
  replace HS : St W M_ W4 [blk g3 [.int .i64 0, .slice none 0 0, .bool false] 32, blk g1 [.int .i64 n, .slice A L.length c, .bool false] 32, row A L.length c (ci .i64 L) 3 1] := H_
  clear H_
  refine ql (.bool false) (by kernel_rfl) (by kernel_rfl) ?_
  refine wpList_nil ?_
  refine x_then ?_
  refine wp_seq ?_
  refine wp_region_lit ?_
  refine ql (.pointer (some ⟨g1, 0, none⟩)) (by kernel_rfl) (by kernel_rfl) ?_
  refine ql (.agg #[.int .i64 n, .slice A L.length c]) (by kernel_rfl) (R_loadN (p := ⟨g1, 0, none⟩) [.int .i64 n, .slice A L.length c] (by kernel_rfl) (by kernel_rfl) (by kernel_rfl) (by kernel_rfl) (two_at (HS.cell (i := 1) (j := 0) rfl rfl) (HS.cell (i := 1) (j := 1) rfl rfl))) ?_
  refine ql (.int .i64 i) (by kernel_rfl) (by kernel_rfl) ?_
  refine qc (f := 44) (args := #[.agg #[.int .i64 n, .slice A L.length c], .int .i64 i]) (by kernel_rfl) (R_call #[.agg #[.int .i64 n, .slice A L.length c], .int .i64 i] Tryd.func44 (by kernel_rfl) (by kernel_rfl) (by kernel_rfl)) ?_
  replace HS : St W M_ W4 [row A L.length c (ci .i64 L) 3 1, blk g3 [.int .i64 0, .slice none 0 0, .bool false] 32, blk g1 [.int .i64 n, .slice A L.length c, .bool false] 32] := HS.perm (perm_ [2, 0, 1] (by kernel_rfl) rfl)
  refine (r3add A c L n i _ _ (St.focus (F := [row A L.length c (ci .i64 L) 3 1]) HS) (by omega)).mono ?_
  rintro e W7 ⟨A5, c6, rfl, H_⟩
  refine ⟨_, rfl, ?_⟩
  replace HS : St W M_ W7 [row A5 ((addL n L i).length) c6 (ci .i64 (addL n L i)) 3 1, blk g3 [.int .i64 0, .slice none 0 0, .bool false] 32, blk g1 [.int .i64 n, .slice A L.length c, .bool false] 32] := HS.join (F := [row A L.length c (ci .i64 L) 3 1]) (G := [row A5 ((addL n L i).length) c6 (ci .i64 (addL n L i)) 3 1]) H_
  clear H_
  refine ql (.tuple #[.agg #[.int .i64 n, .slice A5 ((addL n L i).length) c6], .bool (addB n L i)]) (by kernel_rfl) (by kernel_rfl) ?_
  refine ql (.agg #[.int .i64 n, .slice A5 ((addL n L i).length) c6]) (by kernel_rfl) (by kernel_rfl) ?_
  refine ql (.bool (addB n L i)) (by kernel_rfl) (by kernel_rfl) ?_
  refine kb HS [.int .i64 0, .slice none 0 0] 30 (fun g => .pointer (some ⟨g, 0, none⟩)) (by kernel_rfl) (by kernel_rfl) ?_
  intro g8 W9 H_
  replace HS : St W M_ W9 [blk g8 [.int .i64 0, .slice none 0 0] 30, row A5 ((addL n L i).length) c6 (ci .i64 (addL n L i)) 3 1, blk g3 [.int .i64 0, .slice none 0 0, .bool false] 32, blk g1 [.int .i64 n, .slice A L.length c, .bool false] 32] := H_
  clear H_
  refine ks (v := .agg #[.int .i64 n, .slice A5 ((addL n L i).length) c6]) HS 0 rfl (0) [.int .i64 n, .slice A5 ((addL n L i).length) c6] (by kernel_rfl) (by kernel_rfl) (by kernel_rfl) (by kernel_rfl) (by kernel_rfl) (one_ (by kernel_rfl)) (Nat.le_of_ble_eq_true rfl) rfl ?_
  intro W10 H_
  replace HS : St W M_ W10 [blk g8 [.int .i64 n, .slice A5 ((addL n L i).length) c6] 30, row A5 ((addL n L i).length) c6 (ci .i64 (addL n L i)) 3 1, blk g3 [.int .i64 0, .slice none 0 0, .bool false] 32, blk g1 [.int .i64 n, .slice A L.length c, .bool false] 32] := H_
  clear H_
  refine ql (.bool (addB n L i)) (by kernel_rfl) (by kernel_rfl) ?_
  refine wpList_nil ?_
  refine x_then ?_
  refine wp_seq ?_
  refine wp_region_lit ?_
  refine ql (.agg #[.int .i64 n, .slice A5 ((addL n L i).length) c6]) (by kernel_rfl) (R_loadN (p := ⟨g8, 0, none⟩) [.int .i64 n, .slice A5 ((addL n L i).length) c6] (by kernel_rfl) (by kernel_rfl) (by kernel_rfl) (by kernel_rfl) (two_at (HS.cell (i := 0) (j := 0) rfl rfl) (HS.cell (i := 0) (j := 1) rfl rfl))) ?_
  refine ql (.pointer (some ⟨g1, 2, none⟩)) (by kernel_rfl) (by kernel_rfl) ?_
  refine ql (.bool false) (by kernel_rfl) (R_load (p := ⟨g1, 2, none⟩) (by kernel_rfl) (by kernel_rfl) (by kernel_rfl) (HS.cell (i := 3) (j := 2) rfl rfl)) ?_
  refine ql (.bool false) (by kernel_rfl) (by kernel_rfl) ?_
  refine ql (.pointer (some ⟨g8, 1, none⟩)) (by kernel_rfl) (by kernel_rfl) ?_
  refine ql (.slice A5 ((addL n L i).length) c6) (by kernel_rfl) (R_load (p := ⟨g8, 1, none⟩) (by kernel_rfl) (by kernel_rfl) (by kernel_rfl) (HS.cell (i := 0) (j := 1) rfl rfl)) ?_
  refine ql (.int .i64 ((addL n L i).length : Int)) (by kernel_rfl) (by kernel_rfl) ?_
  by_cases hc11 : ((addL n L i).length : Int) > (8 : Int)
  · skip
    refine ql (.bool true) (by kernel_rfl) (R_bool (p := ((addL n L i).length : Int) > (8 : Int)) (by kernel_rfl) (hc11)) ?_
    refine ql (.bool true) (by kernel_rfl) (by kernel_rfl) ?_
    refine ql (.agg #[.int .i64 n, .slice A5 ((addL n L i).length) c6, .bool true]) (by kernel_rfl) (by kernel_rfl) ?_
    refine ql (.bool (addB n L i)) (by kernel_rfl) (by kernel_rfl) ?_
    refine ks (v := .agg #[.int .i64 n, .slice A5 ((addL n L i).length) c6, .bool true]) HS 2 rfl (0) [.int .i64 n, .slice A5 ((addL n L i).length) c6, .bool true] (by kernel_rfl) (by kernel_rfl) (by kernel_rfl) (by kernel_rfl) (by kernel_rfl) (one_ (by kernel_rfl)) (Nat.le_of_ble_eq_true rfl) rfl ?_
    intro W12 H_
    replace HS : St W M_ W12 [blk g8 [.int .i64 n, .slice A5 ((addL n L i).length) c6] 30, row A5 ((addL n L i).length) c6 (ci .i64 (addL n L i)) 3 1, blk g3 [.int .i64 n, .slice A5 ((addL n L i).length) c6, .bool true] 32, blk g1 [.int .i64 n, .slice A L.length c, .bool false] 32] := H_
    clear H_
    refine ql (.bool (addB n L i)) (by kernel_rfl) (by kernel_rfl) ?_
    refine wpList_nil ?_
    refine x_then ?_
    refine wp_ret ?_
    refine ret_ (.tuple #[.agg #[.int .i64 n, .slice A5 ((addL n L i).length) c6, .bool true], .bool (addB n L i)]) (res2 rfl (oneRes_agg (p := ⟨g3, 0, none⟩) [.int .i64 n, .slice A5 ((addL n L i).length) c6, .bool true] (by kernel_rfl) (by kernel_rfl) (by kernel_rfl) (by kernel_rfl) (HS.cellsN (i := 2) rfl)) (oneRes_t (by kernel_rfl))) ?_
    replace HS : St W M_ W12 [row A5 ((addL n L i).length) c6 (ci .i64 (addL n L i)) 3 1] := St.tail (F := [blk g8 [.int .i64 n, .slice A5 ((addL n L i).length) c6] 30, blk g3 [.int .i64 n, .slice A5 ((addL n L i).length) c6, .bool true] 32, blk g1 [.int .i64 n, .slice A L.length c, .bool false] 32]) (HS.perm (perm_ [0, 2, 3, 1] (by kernel_rfl) rfl))
    have hbv : (false || decide (8 < (addL n L i).length)) = true := by first | rfl | (simp only [Bool.true_or, Bool.false_or, Bool.or_false, Bool.or_true]; done) | (simp only [Bool.true_or, Bool.false_or, Bool.or_false, Bool.or_true]; exact decide_eq_true (by omega))
    exact ⟨_, _, by rw [hbv], HS⟩
  · skip
    refine ql (.bool false) (by kernel_rfl) (R_nbool (p := ((addL n L i).length : Int) > (8 : Int)) (by kernel_rfl) (hc11)) ?_
    refine ql (.bool false) (by kernel_rfl) (by kernel_rfl) ?_
    refine ql (.agg #[.int .i64 n, .slice A5 ((addL n L i).length) c6, .bool false]) (by kernel_rfl) (by kernel_rfl) ?_
    refine ql (.bool (addB n L i)) (by kernel_rfl) (by kernel_rfl) ?_
    refine ks (v := .agg #[.int .i64 n, .slice A5 ((addL n L i).length) c6, .bool false]) HS 2 rfl (0) [.int .i64 n, .slice A5 ((addL n L i).length) c6, .bool false] (by kernel_rfl) (by kernel_rfl) (by kernel_rfl) (by kernel_rfl) (by kernel_rfl) (one_ (by kernel_rfl)) (Nat.le_of_ble_eq_true rfl) rfl ?_
    intro W13 H_
    replace HS : St W M_ W13 [blk g8 [.int .i64 n, .slice A5 ((addL n L i).length) c6] 30, row A5 ((addL n L i).length) c6 (ci .i64 (addL n L i)) 3 1, blk g3 [.int .i64 n, .slice A5 ((addL n L i).length) c6, .bool false] 32, blk g1 [.int .i64 n, .slice A L.length c, .bool false] 32] := H_
    clear H_
    refine ql (.bool (addB n L i)) (by kernel_rfl) (by kernel_rfl) ?_
    refine wpList_nil ?_
    refine x_then ?_
    refine wp_ret ?_
    refine ret_ (.tuple #[.agg #[.int .i64 n, .slice A5 ((addL n L i).length) c6, .bool false], .bool (addB n L i)]) (res2 rfl (oneRes_agg (p := ⟨g3, 0, none⟩) [.int .i64 n, .slice A5 ((addL n L i).length) c6, .bool false] (by kernel_rfl) (by kernel_rfl) (by kernel_rfl) (by kernel_rfl) (HS.cellsN (i := 2) rfl)) (oneRes_t (by kernel_rfl))) ?_
    replace HS : St W M_ W13 [row A5 ((addL n L i).length) c6 (ci .i64 (addL n L i)) 3 1] := St.tail (F := [blk g8 [.int .i64 n, .slice A5 ((addL n L i).length) c6] 30, blk g3 [.int .i64 n, .slice A5 ((addL n L i).length) c6, .bool false] 32, blk g1 [.int .i64 n, .slice A L.length c, .bool false] 32]) (HS.perm (perm_ [0, 2, 3, 1] (by kernel_rfl) rfl))
    have hbv : (false || decide (8 < (addL n L i).length)) = false := by first | rfl | (simp only [Bool.true_or, Bool.false_or, Bool.or_false, Bool.or_true]; done) | (simp only [Bool.true_or, Bool.false_or, Bool.or_false, Bool.or_true]; exact decide_eq_false (by omega))
    exact ⟨_, _, by rw [hbv], HS⟩

theorem r5add (A : Option Addr) (c : Nat) (L : List Int) (n : Int) (b : Bool) (i : Int) (W : World) (M_ : Nat → Prop) (HS : St W M_ W [row A L.length c (ci .i64 L) 3 1]) (hl : L.length ≤ 50000) : Calls Tryd.prog 26 #[.agg #[.int .i64 n, .slice A L.length c, .bool b], .int .i64 i] W fun e W' => ∃ A' c', e = .returned (.tuple #[.agg #[.int .i64 n, .slice A' (addL n L i).length c', .bool (b || decide (8 < (addL n L i).length))], .bool (addB n L i)]) ∧ St W M_ W' [row A' ((addL n L i).length) c' (ci .i64 (addL n L i)) 3 1] := by
  cases b
  · exact r5add_f A c L n i W M_ HS hl
  · exact r5add_t A c L n i W M_ HS hl

set_option maxRecDepth 100000 in
set_option maxHeartbeats 1000000 in
theorem r5or_ne_tt (A : Option Addr) (c : Nat) (L : List Int) (n : Int) (B : Option Addr) (c2 : Nat) (M : List Int) (m : Int) (W : World) (M_ : Nat → Prop) (HS : St W M_ W [row A L.length c (ci .i64 L) 3 1, row B M.length c2 (ci .i64 M) 3 1]) (hne : n ≠ m) : Calls Tryd.prog 27 #[.agg #[.int .i64 n, .slice A L.length c, .bool true], .agg #[.int .i64 m, .slice B M.length c2, .bool true]] W fun e W' => e = .returned (.tuple #[.agg #[.int .i64 n, .slice A L.length c, .bool true], .bool false]) ∧ St W M_ W' [row A L.length c (ci .i64 L) 3 1, row B M.length c2 (ci .i64 M) 3 1] := by
  have hul := uni_len M L
  refine calls_enter [.agg #[.int .i64 n, .slice A L.length c, .bool true], .agg #[.int .i64 m, .slice B M.length c2, .bool true], undef, undef, undef, undef, undef, undef, undef, undef, undef, undef, undef, undef, undef, undef, undef, undef, undef, undef, undef, undef, undef, undef, undef, undef, undef, undef, undef, undef, undef, undef, undef, undef, undef, undef, undef, undef, undef] Tryd.func27 rfl (by kernel_rfl) ?_
  refine wp_seq ?_
  refine wp_region_lit ?_
  refine kb HS [.int .i64 n, .slice A L.length c, .bool true] 32 (fun g => .pointer (some ⟨g, 0, none⟩)) (by kernel_rfl) (by kernel_rfl) ?_
  intro g1 W2 H_
  replace HS : St W M_ W2 [blk g1 [.int .i64 n, .slice A L.length c, .bool true] 32, row A L.length c (ci .i64 L) 3 1, row B M.length c2 (ci .i64 M) 3 1] := H_
  clear H_
  refine kb HS [.int .i64 m, .slice B M.length c2, .bool true] 32 (fun g => .pointer (some ⟨g, 0, none⟩)) (by kernel_rfl) (by kernel_rfl) ?_
  intro g3 W4 H_
  replace HS : St W M_ W4 [blk g3 [.int .i64 m, .slice B M.length c2, .bool true] 32, blk g1 [.int .i64 n, .slice A L.length c, .bool true] 32, row A L.length c (ci .i64 L) 3 1, row B M.length c2 (ci .i64 M) 3 1] := H_
  clear H_
  refine kb HS [.int .i64 0, .slice none 0 0, .bool false] 32 (fun g => .pointer (some ⟨g, 0, none⟩)) (by kernel_rfl) (by kernel_rfl) ?_
  intro g5 W6 H_
  replace HS : St W M_ W6 [blk g5 [.int .i64 0, .slice none 0 0, .bool false] 32, blk g3 [.int .i64 m, .slice B M.length c2, .bool true] 32, blk g1 [.int .i64 n, .slice A L.length c, .bool true] 32, row A L.length c (ci .i64 L) 3 1, row B M.length c2 (ci .i64 M) 3 1] := H_
  clear H_
  refine ql (.bool false) (by kernel_rfl) (by kernel_rfl) ?_
  refine wpList_nil ?_
  refine x_then ?_
  refine wp_seq ?_
  refine wp_seq ?_
  refine wp_region_lit ?_
  refine ql (.pointer (some ⟨g1, 0, none⟩)) (by kernel_rfl) (by kernel_rfl) ?_
  refine ql (.pointer (some ⟨g1, 0, none⟩)) (by kernel_rfl) (by kernel_rfl) ?_
  refine ql (.int .i64 n) (by kernel_rfl) (R_load (p := ⟨g1, 0, none⟩) (by kernel_rfl) (by kernel_rfl) (by kernel_rfl) (HS.cell (i := 2) (j := 0) rfl rfl)) ?_
  refine ql (.pointer (some ⟨g3, 0, none⟩)) (by kernel_rfl) (by kernel_rfl) ?_
  refine ql (.pointer (some ⟨g3, 0, none⟩)) (by kernel_rfl) (by kernel_rfl) ?_
  refine ql (.int .i64 m) (by kernel_rfl) (R_load (p := ⟨g3, 0, none⟩) (by kernel_rfl) (by kernel_rfl) (by kernel_rfl) (HS.cell (i := 1) (j := 0) rfl rfl)) ?_
  refine ql (.bool true) (by kernel_rfl) (R_beq (b := (n != m)) (by kernel_rfl) (bne_t (by omega))) ?_
  refine wpList_nil ?_
  refine x_then ?_
  refine wp_cond_true (by kernel_rfl) ?_
  refine wp_seq ?_
  refine wp_region_lit ?_
  refine ql (.agg #[.int .i64 n, .slice A L.length c, .bool true]) (by kernel_rfl) (R_loadN (p := ⟨g1, 0, none⟩) [.int .i64 n, .slice A L.length c, .bool true] (by kernel_rfl) (by kernel_rfl) (by kernel_rfl) (by kernel_rfl) (three_at (HS.cell (i := 2) (j := 0) rfl rfl) (HS.cell (i := 2) (j := 1) rfl rfl) (HS.cell (i := 2) (j := 2) rfl rfl))) ?_
  refine ks (v := .agg #[.int .i64 n, .slice A L.length c, .bool true]) HS 0 rfl (0) [.int .i64 n, .slice A L.length c, .bool true] (by kernel_rfl) (by kernel_rfl) (by kernel_rfl) (by kernel_rfl) (by kernel_rfl) (one_ (by kernel_rfl)) (Nat.le_of_ble_eq_true rfl) rfl ?_
  intro W7 H_
  replace HS : St W M_ W7 [blk g5 [.int .i64 n, .slice A L.length c, .bool true] 32, blk g3 [.int .i64 m, .slice B M.length c2, .bool true] 32, blk g1 [.int .i64 n, .slice A L.length c, .bool true] 32, row A L.length c (ci .i64 L) 3 1, row B M.length c2 (ci .i64 M) 3 1] := H_
  clear H_
  refine ql (.bool false) (by kernel_rfl) (by kernel_rfl) ?_
  refine wpList_nil ?_
  refine x_then ?_
  refine wp_ret ?_
  refine x_thenR ?_
  refine ret_ (.tuple #[.agg #[.int .i64 n, .slice A L.length c, .bool true], .bool false]) (res2 rfl (oneRes_agg (p := ⟨g5, 0, none⟩) [.int .i64 n, .slice A L.length c, .bool true] (by kernel_rfl) (by kernel_rfl) (by kernel_rfl) (by kernel_rfl) (HS.cellsN (i := 0) rfl)) (oneRes_t (by kernel_rfl))) ?_
  replace HS := HS.drop1
  replace HS := HS.drop1
  replace HS := HS.drop1
  exact ⟨rfl, HS⟩

set_option maxRecDepth 100000 in
set_option maxHeartbeats 1000000 in
theorem r5or_eq_tt (A : Option Addr) (c : Nat) (L : List Int) (n : Int) (B : Option Addr) (c2 : Nat) (M : List Int) (m : Int) (W : World) (M_ : Nat → Prop) (HS : St W M_ W [row A L.length c (ci .i64 L) 3 1, row B M.length c2 (ci .i64 M) 3 1]) (hl : L.length ≤ 40000) (hl2 : M.length ≤ 40000) (hnm : n = m) (hsM : M.Pairwise (· < ·)) (hlM : ∀ x ∈ M, 0 ≤ x ∧ x < m) : Calls Tryd.prog 27 #[.agg #[.int .i64 n, .slice A L.length c, .bool true], .agg #[.int .i64 m, .slice B M.length c2, .bool true]] W fun e W' => ∃ A' c', e = .returned (.tuple #[.agg #[.int .i64 n, .slice A' (uni L M).length c', .bool (true || true || decide (8 < (uni L M).length))], .bool (newB L M)]) ∧ St W M_ W' [row A' ((uni L M).length) c' (ci .i64 (uni L M)) 3 1, row B M.length c2 (ci .i64 M) 3 1] := by
  have hul := uni_len M L
  refine calls_enter [.agg #[.int .i64 n, .slice A L.length c, .bool true], .agg #[.int .i64 m, .slice B M.length c2, .bool true], undef, undef, undef, undef, undef, undef, undef, undef, undef, undef, undef, undef, undef, undef, undef, undef, undef, undef, undef, undef, undef, undef, undef, undef, undef, undef, undef, undef, undef, undef, undef, undef, undef, undef, undef, undef, undef] Tryd.func27 rfl (by kernel_rfl) ?_
  refine wp_seq ?_
  refine wp_region_lit ?_
  refine kb HS [.int .i64 n, .slice A L.length c, .bool true] 32 (fun g => .pointer (some ⟨g, 0, none⟩)) (by kernel_rfl) (by kernel_rfl) ?_
  intro g1 W2 H_
  replace HS : St W M_ W2 [blk g1 [.int .i64 n, .slice A L.length c, .bool true] 32, row A L.length c (ci .i64 L) 3 1, row B M.length c2 (ci .i64 M) 3 1] := H_
  clear H_
  refine kb HS [.int .i64 m, .slice B M.length c2, .bool true] 32 (fun g => .pointer (some ⟨g, 0, none⟩)) (by kernel_rfl) (by kernel_rfl) ?_
  intro g3 W4 H_
  replace HS : St W M_ W4 [blk g3 [.int .i64 m, .slice B M.length c2, .bool true] 32, blk g1 [.int .i64 n, .slice A L.length c, .bool true] 32, row A L.length c (ci .i64 L) 3 1, row B M.length c2 (ci .i64 M) 3 1] := H_
  clear H_
  refine kb HS [.int .i64 0, .slice none 0 0, .bool false] 32 (fun g => .pointer (some ⟨g, 0, none⟩)) (by kernel_rfl) (by kernel_rfl) ?_
  intro g5 W6 H_
  replace HS : St W M_ W6 [blk g5 [.int .i64 0, .slice none 0 0, .bool false] 32, blk g3 [.int .i64 m, .slice B M.length c2, .bool true] 32, blk g1 [.int .i64 n, .slice A L.length c, .bool true] 32, row A L.length c (ci .i64 L) 3 1, row B M.length c2 (ci .i64 M) 3 1] := H_
  clear H_
  refine ql (.bool false) (by kernel_rfl) (by kernel_rfl) ?_
  refine wpList_nil ?_
  refine x_then ?_
  refine wp_seq ?_
  refine wp_seq ?_
  refine wp_region_lit ?_
  refine ql (.pointer (some ⟨g1, 0, none⟩)) (by kernel_rfl) (by kernel_rfl) ?_
  refine ql (.pointer (some ⟨g1, 0, none⟩)) (by kernel_rfl) (by kernel_rfl) ?_
  refine ql (.int .i64 n) (by kernel_rfl) (R_load (p := ⟨g1, 0, none⟩) (by kernel_rfl) (by kernel_rfl) (by kernel_rfl) (HS.cell (i := 2) (j := 0) rfl rfl)) ?_
  refine ql (.pointer (some ⟨g3, 0, none⟩)) (by kernel_rfl) (by kernel_rfl) ?_
  refine ql (.pointer (some ⟨g3, 0, none⟩)) (by kernel_rfl) (by kernel_rfl) ?_
  refine ql (.int .i64 m) (by kernel_rfl) (R_load (p := ⟨g3, 0, none⟩) (by kernel_rfl) (by kernel_rfl) (by kernel_rfl) (HS.cell (i := 1) (j := 0) rfl rfl)) ?_
  refine ql (.bool false) (by kernel_rfl) (R_beq (b := (n != m)) (by kernel_rfl) (bne_f (by omega))) ?_
  refine wpList_nil ?_
  refine x_then ?_
  refine wp_cond_false (by kernel_rfl) ?_
  refine wp_skip ?_
  refine x_then ?_
  refine wp_seq ?_
  refine wp_region_lit ?_
  refine ql (.pointer (some ⟨g1, 0, none⟩)) (by kernel_rfl) (by kernel_rfl) ?_
  refine ql (.agg #[.int .i64 n, .slice A L.length c]) (by kernel_rfl) (R_loadN (p := ⟨g1, 0, none⟩) [.int .i64 n, .slice A L.length c] (by kernel_rfl) (by kernel_rfl) (by kernel_rfl) (by kernel_rfl) (two_at (HS.cell (i := 2) (j := 0) rfl rfl) (HS.cell (i := 2) (j := 1) rfl rfl))) ?_
  refine ql (.pointer (some ⟨g3, 0, none⟩)) (by kernel_rfl) (by kernel_rfl) ?_
  refine ql (.agg #[.int .i64 m, .slice B M.length c2]) (by kernel_rfl) (R_loadN (p := ⟨g3, 0, none⟩) [.int .i64 m, .slice B M.length c2] (by kernel_rfl) (by kernel_rfl) (by kernel_rfl) (by kernel_rfl) (two_at (HS.cell (i := 1) (j := 0) rfl rfl) (HS.cell (i := 1) (j := 1) rfl rfl))) ?_
  refine qc (f := 45) (args := #[.agg #[.int .i64 n, .slice A L.length c], .agg #[.int .i64 m, .slice B M.length c2]]) (by kernel_rfl) (R_call #[.agg #[.int .i64 n, .slice A L.length c], .agg #[.int .i64 m, .slice B M.length c2]] Tryd.func45 (by kernel_rfl) (by kernel_rfl) (by kernel_rfl)) ?_
  replace HS : St W M_ W6 [row A L.length c (ci .i64 L) 3 1, row B M.length c2 (ci .i64 M) 3 1, blk g5 [.int .i64 0, .slice none 0 0, .bool false] 32, blk g3 [.int .i64 m, .slice B M.length c2, .bool true] 32, blk g1 [.int .i64 n, .slice A L.length c, .bool true] 32] := HS.perm (perm_ [3, 4, 0, 1, 2] (by kernel_rfl) rfl)
  refine (r3or_e2 A c L n B c2 M m _ _ (St.focus (F := [row A L.length c (ci .i64 L) 3 1, row B M.length c2 (ci .i64 M) 3 1]) HS) (by omega) (by omega) hnm hsM hlM).mono ?_
  rintro e W9 ⟨A7, c8, rfl, H_⟩
  refine ⟨_, rfl, ?_⟩
  replace HS : St W M_ W9 [row A7 ((uni L M).length) c8 (ci .i64 (uni L M)) 3 1, row B M.length c2 (ci .i64 M) 3 1, blk g5 [.int .i64 0, .slice none 0 0, .bool false] 32, blk g3 [.int .i64 m, .slice B M.length c2, .bool true] 32, blk g1 [.int .i64 n, .slice A L.length c, .bool true] 32] := HS.join (F := [row A L.length c (ci .i64 L) 3 1, row B M.length c2 (ci .i64 M) 3 1]) (G := [row A7 ((uni L M).length) c8 (ci .i64 (uni L M)) 3 1, row B M.length c2 (ci .i64 M) 3 1]) H_
  clear H_
  refine ql (.tuple #[.agg #[.int .i64 n, .slice A7 ((uni L M).length) c8], .bool (newB L M)]) (by kernel_rfl) (by kernel_rfl) ?_
  refine ql (.agg #[.int .i64 n, .slice A7 ((uni L M).length) c8]) (by kernel_rfl) (by kernel_rfl) ?_
  refine ql (.bool (newB L M)) (by kernel_rfl) (by kernel_rfl) ?_
  refine kb HS [.int .i64 0, .slice none 0 0] 30 (fun g => .pointer (some ⟨g, 0, none⟩)) (by kernel_rfl) (by kernel_rfl) ?_
  intro g10 W11 H_
  replace HS : St W M_ W11 [blk g10 [.int .i64 0, .slice none 0 0] 30, row A7 ((uni L M).length) c8 (ci .i64 (uni L M)) 3 1, row B M.length c2 (ci .i64 M) 3 1, blk g5 [.int .i64 0, .slice none 0 0, .bool false] 32, blk g3 [.int .i64 m, .slice B M.length c2, .bool true] 32, blk g1 [.int .i64 n, .slice A L.length c, .bool true] 32] := H_
  clear H_
  refine ks (v := .agg #[.int .i64 n, .slice A7 ((uni L M).length) c8]) HS 0 rfl (0) [.int .i64 n, .slice A7 ((uni L M).length) c8] (by kernel_rfl) (by kernel_rfl) (by kernel_rfl) (by kernel_rfl) (by kernel_rfl) (one_ (by kernel_rfl)) (Nat.le_of_ble_eq_true rfl) rfl ?_
  intro W12 H_
  replace HS : St W M_ W12 [blk g10 [.int .i64 n, .slice A7 ((uni L M).length) c8] 30, row A7 ((uni L M).length) c8 (ci .i64 (uni L M)) 3 1, row B M.length c2 (ci .i64 M) 3 1, blk g5 [.int .i64 0, .slice none 0 0, .bool false] 32, blk g3 [.int .i64 m, .slice B M.length c2, .bool true] 32, blk g1 [.int .i64 n, .slice A L.length c, .bool true] 32] := H_
  clear H_
  refine ql (.bool (newB L M)) (by kernel_rfl) (by kernel_rfl) ?_
  refine wpList_nil ?_
  refine x_then ?_
  refine wp_seq ?_
  refine wp_region_lit ?_
  refine ql (.agg #[.int .i64 n, .slice A7 ((uni L M).length) c8]) (by kernel_rfl) (R_loadN (p := ⟨g10, 0, none⟩) [.int .i64 n, .slice A7 ((uni L M).length) c8] (by kernel_rfl) (by kernel_rfl) (by kernel_rfl) (by kernel_rfl) (two_at (HS.cell (i := 0) (j := 0) rfl rfl) (HS.cell (i := 0) (j := 1) rfl rfl))) ?_
  refine ql (.pointer (some ⟨g1, 2, none⟩)) (by kernel_rfl) (by kernel_rfl) ?_
  refine ql (.bool true) (by kernel_rfl) (R_load (p := ⟨g1, 2, none⟩) (by kernel_rfl) (by kernel_rfl) (by kernel_rfl) (HS.cell (i := 5) (j := 2) rfl rfl)) ?_
  refine ql (.bool true) (by kernel_rfl) (by kernel_rfl) ?_
  refine qln (by kernel_rfl) ?_
  refine qln (by kernel_rfl) ?_
  refine ql (.bool true) (by kernel_rfl) (by kernel_rfl) ?_
  refine ql (.bool true) (by kernel_rfl) (by kernel_rfl) ?_
  refine qln (by kernel_rfl) ?_
  refine qln (by kernel_rfl) ?_
  refine qln (by kernel_rfl) ?_
  refine qln (by kernel_rfl) ?_
  refine ql (.bool true) (by kernel_rfl) (by kernel_rfl) ?_
  refine ql (.agg #[.int .i64 n, .slice A7 ((uni L M).length) c8, .bool true]) (by kernel_rfl) (by kernel_rfl) ?_
  refine ql (.bool (newB L M)) (by kernel_rfl) (by kernel_rfl) ?_
  refine ks (v := .agg #[.int .i64 n, .slice A7 ((uni L M).length) c8, .bool true]) HS 3 rfl (0) [.int .i64 n, .slice A7 ((uni L M).length) c8, .bool true] (by kernel_rfl) (by kernel_rfl) (by kernel_rfl) (by kernel_rfl) (by kernel_rfl) (one_ (by kernel_rfl)) (Nat.le_of_ble_eq_true rfl) rfl ?_
  intro W13 H_
  replace HS : St W M_ W13 [blk g10 [.int .i64 n, .slice A7 ((uni L M).length) c8] 30, row A7 ((uni L M).length) c8 (ci .i64 (uni L M)) 3 1, row B M.length c2 (ci .i64 M) 3 1, blk g5 [.int .i64 n, .slice A7 ((uni L M).length) c8, .bool true] 32, blk g3 [.int .i64 m, .slice B M.length c2, .bool true] 32, blk g1 [.int .i64 n, .slice A L.length c, .bool true] 32] := H_
  clear H_
  refine ql (.bool (newB L M)) (by kernel_rfl) (by kernel_rfl) ?_
  refine wpList_nil ?_
  refine x_then ?_
  refine wp_ret ?_
  refine ret_ (.tuple #[.agg #[.int .i64 n, .slice A7 ((uni L M).length) c8, .bool true], .bool (newB L M)]) (res2 rfl (oneRes_agg (p := ⟨g5, 0, none⟩) [.int .i64 n, .slice A7 ((uni L M).length) c8, .bool true] (by kernel_rfl) (by kernel_rfl) (by kernel_rfl) (by kernel_rfl) (HS.cellsN (i := 3) rfl)) (oneRes_t (by kernel_rfl))) ?_
  replace HS : St W M_ W13 [row A7 ((uni L M).length) c8 (ci .i64 (uni L M)) 3 1, row B M.length c2 (ci .i64 M) 3 1] := St.tail (F := [blk g10 [.int .i64 n, .slice A7 ((uni L M).length) c8] 30, blk g5 [.int .i64 n, .slice A7 ((uni L M).length) c8, .bool true] 32, blk g3 [.int .i64 m, .slice B M.length c2, .bool true] 32, blk g1 [.int .i64 n, .slice A L.length c, .bool true] 32]) (HS.perm (perm_ [0, 3, 4, 5, 1, 2] (by kernel_rfl) rfl))
  have hbv : (true || true || decide (8 < (uni L M).length)) = true := by first | rfl | (simp only [Bool.true_or, Bool.false_or, Bool.or_false, Bool.or_true]; done) | (simp only [Bool.true_or, Bool.false_or, Bool.or_false, Bool.or_true]; exact decide_eq_true (by omega))
  exact ⟨_, _, by rw [hbv], HS⟩

set_option maxRecDepth 100000 in
set_option maxHeartbeats 1000000 in
theorem r5or_ne_tf (A : Option Addr) (c : Nat) (L : List Int) (n : Int) (B : Option Addr) (c2 : Nat) (M : List Int) (m : Int) (W : World) (M_ : Nat → Prop) (HS : St W M_ W [row A L.length c (ci .i64 L) 3 1, row B M.length c2 (ci .i64 M) 3 1]) (hne : n ≠ m) : Calls Tryd.prog 27 #[.agg #[.int .i64 n, .slice A L.length c, .bool true], .agg #[.int .i64 m, .slice B M.length c2, .bool false]] W fun e W' => e = .returned (.tuple #[.agg #[.int .i64 n, .slice A L.length c, .bool true], .bool false]) ∧ St W M_ W' [row A L.length c (ci .i64 L) 3 1, row B M.length c2 (ci .i64 M) 3 1] := by
  have hul := uni_len M L
  refine calls_enter [.agg #[.int .i64 n, .slice A L.length c, .bool true], .agg #[.int .i64 m, .slice B M.length c2, .bool false], undef, undef, undef, undef, undef, undef, undef, undef, undef, undef, undef, undef, undef, undef, undef, undef, undef, undef, undef, undef, undef, undef, undef, undef, undef, undef, undef, undef, undef, undef, undef, undef, undef, undef, undef, undef, undef] Tryd.func27 rfl (by kernel_rfl) ?_
  refine wp_seq ?_
  refine wp_region_lit ?_
  refine kb HS [.int .i64 n, .slice A L.length c, .bool true] 32 (fun g => .pointer (some ⟨g, 0, none⟩)) (by kernel_rfl) (by kernel_rfl) ?_
  intro g1 W2 H_
  replace HS : St W M_ W2 [blk g1 [.int .i64 n, .slice A L.length c, .bool true] 32, row A L.length c (ci .i64 L) 3 1, row B M.length c2 (ci .i64 M) 3 1] := H_
  clear H_
  refine kb HS [.int .i64 m, .slice B M.length c2, .bool false] 32 (fun g => .pointer (some ⟨g, 0, none⟩)) (by kernel_rfl) (by kernel_rfl) ?_
  intro g3 W4 H_
  replace HS : St W M_ W4 [blk g3 [.int .i64 m, .slice B M.length c2, .bool false] 32, blk g1 [.int .i64 n, .slice A L.length c, .bool true] 32, row A L.length c (ci .i64 L) 3 1, row B M.length c2 (ci .i64 M) 3 1] := H_
  clear H_
  refine kb HS [.int .i64 0, .slice none 0 0, .bool false] 32 (fun g => .pointer (some ⟨g, 0, none⟩)) (by kernel_rfl) (by kernel_rfl) ?_
  intro g5 W6 H_
  replace HS : St W M_ W6 [blk g5 [.int .i64 0, .slice none 0 0, .bool false] 32, blk g3 [.int .i64 m, .slice B M.length c2, .bool false] 32, blk g1 [.int .i64 n, .slice A L.length c, .bool true] 32, row A L.length c (ci .i64 L) 3 1, row B M.length c2 (ci .i64 M) 3 1] := H_
  clear H_
  refine ql (.bool false) (by kernel_rfl) (by kernel_rfl) ?_
  refine wpList_nil ?_
  refine x_then ?_
  refine wp_seq ?_
  refine wp_seq ?_
  refine wp_region_lit ?_
  refine ql (.pointer (some ⟨g1, 0, none⟩)) (by kernel_rfl) (by kernel_rfl) ?_
  refine ql (.pointer (some ⟨g1, 0, none⟩)) (by kernel_rfl) (by kernel_rfl) ?_
  refine ql (.int .i64 n) (by kernel_rfl) (R_load (p := ⟨g1, 0, none⟩) (by kernel_rfl) (by kernel_rfl) (by kernel_rfl) (HS.cell (i := 2) (j := 0) rfl rfl)) ?_
  refine ql (.pointer (some ⟨g3, 0, none⟩)) (by kernel_rfl) (by kernel_rfl) ?_
  refine ql (.pointer (some ⟨g3, 0, none⟩)) (by kernel_rfl) (by kernel_rfl) ?_
  refine ql (.int .i64 m) (by kernel_rfl) (R_load (p := ⟨g3, 0, none⟩) (by kernel_rfl) (by kernel_rfl) (by kernel_rfl) (HS.cell (i := 1) (j := 0) rfl rfl)) ?_
  refine ql (.bool true) (by kernel_rfl) (R_beq (b := (n != m)) (by kernel_rfl) (bne_t (by omega))) ?_
  refine wpList_nil ?_
  refine x_then ?_
  refine wp_cond_true (by kernel_rfl) ?_
  refine wp_seq ?_
  refine wp_region_lit ?_
  refine ql (.agg #[.int .i64 n, .slice A L.length c, .bool true]) (by kernel_rfl) (R_loadN (p := ⟨g1, 0, none⟩) [.int .i64 n, .slice A L.length c, .bool true] (by kernel_rfl) (by kernel_rfl) (by kernel_rfl) (by kernel_rfl) (three_at (HS.cell (i := 2) (j := 0) rfl rfl) (HS.cell (i := 2) (j := 1) rfl rfl) (HS.cell (i := 2) (j := 2) rfl rfl))) ?_
  refine ks (v := .agg #[.int .i64 n, .slice A L.length c, .bool true]) HS 0 rfl (0) [.int .i64 n, .slice A L.length c, .bool true] (by kernel_rfl) (by kernel_rfl) (by kernel_rfl) (by kernel_rfl) (by kernel_rfl) (one_ (by kernel_rfl)) (Nat.le_of_ble_eq_true rfl) rfl ?_
  intro W7 H_
  replace HS : St W M_ W7 [blk g5 [.int .i64 n, .slice A L.length c, .bool true] 32, blk g3 [.int .i64 m, .slice B M.length c2, .bool false] 32, blk g1 [.int .i64 n, .slice A L.length c, .bool true] 32, row A L.length c (ci .i64 L) 3 1, row B M.length c2 (ci .i64 M) 3 1] := H_
  clear H_
  refine ql (.bool false) (by kernel_rfl) (by kernel_rfl) ?_
  refine wpList_nil ?_
  refine x_then ?_
  refine wp_ret ?_
  refine x_thenR ?_
  refine ret_ (.tuple #[.agg #[.int .i64 n, .slice A L.length c, .bool true], .bool false]) (res2 rfl (oneRes_agg (p := ⟨g5, 0, none⟩) [.int .i64 n, .slice A L.length c, .bool true] (by kernel_rfl) (by kernel_rfl) (by kernel_rfl) (by kernel_rfl) (HS.cellsN (i := 0) rfl)) (oneRes_t (by kernel_rfl))) ?_
  replace HS := HS.drop1
  replace HS := HS.drop1
  replace HS := HS.drop1
  exact ⟨rfl, HS⟩

set_option maxRecDepth 100000 in
set_option maxHeartbeats 1000000 in
theorem r5or_eq_tf (A : Option Addr) (c : Nat) (L : List Int) (n : Int) (B : Option Addr) (c2 : Nat) (M : List Int) (m : Int) (W : World) (M_ : Nat → Prop) (HS : St W M_ W [row A L.length c (ci .i64 L) 3 1, row B M.length c2 (ci .i64 M) 3 1]) (hl : L.length ≤ 40000) (hl2 : M.length ≤ 40000) (hnm : n = m) (hsM : M.Pairwise (· < ·)) (hlM : ∀ x ∈ M, 0 ≤ x ∧ x < m) : Calls Tryd.prog 27 #[.agg #[.int .i64 n, .slice A L.length c, .bool true], .agg #[.int .i64 m, .slice B M.length c2, .bool false]] W fun e W' => ∃ A' c', e = .returned (.tuple #[.agg #[.int .i64 n, .slice A' (uni L M).length c', .bool (true || false || decide (8 < (uni L M).length))], .bool (newB L M)]) ∧ St W M_ W' [row A' ((uni L M).length) c' (ci .i64 (uni L M)) 3 1, row B M.length c2 (ci .i64 M) 3 1] := by
  have hul := uni_len M L
  refine calls_enter [.agg #[.int .i64 n, .slice A L.length c, .bool true], .agg #[.int .i64 m, .slice B M.length c2, .bool false], undef, undef, undef, undef, undef, undef, undef, undef, undef, undef, undef, undef, undef, undef, undef, undef, undef, undef, undef, undef, undef, undef, undef, undef, undef, undef, undef, undef, undef, undef, undef, undef, undef, undef, undef, undef, undef] Tryd.func27 rfl (by kernel_rfl) ?_
  refine wp_seq ?_
  refine wp_region_lit ?_
  refine kb HS [.int .i64 n, .slice A L.length c, .bool true] 32 (fun g => .pointer (some ⟨g, 0, none⟩)) (by kernel_rfl) (by kernel_rfl) ?_
  intro g1 W2 H_
  replace HS : St W M_ W2 [blk g1 [.int .i64 n, .slice A L.length c, .bool true] 32, row A L.length c (ci .i64 L) 3 1, row B M.length c2 (ci .i64 M) 3 1] := H_
  clear H_
  refine kb HS [.int .i64 m, .slice B M.length c2, .bool false] 32 (fun g => .pointer (some ⟨g, 0, none⟩)) (by kernel_rfl) (by kernel_rfl) ?_
  intro g3 W4 H_
  replace HS : St W M_ W4 [blk g3 [.int .i64 m, .slice B M.length c2, .bool false] 32, blk g1 [.int .i64 n, .slice A L.length c, .bool true] 32, row A L.length c (ci .i64 L) 3 1, row B M.length c2 (ci .i64 M) 3 1] := H_
  clear H_
  refine kb HS [.int .i64 0, .slice none 0 0, .bool false] 32 (fun g => .pointer (some ⟨g, 0, none⟩)) (by kernel_rfl) (by kernel_rfl) ?_
  intro g5 W6 H_
  replace HS : St W M_ W6 [blk g5 [.int .i64 0, .slice none 0 0, .bool false] 32, blk g3 [.int .i64 m, .slice B M.length c2, .bool false] 32, blk g1 [.int .i64 n, .slice A L.length c, .bool true] 32, row A L.length c (ci .i64 L) 3 1, row B M.length c2 (ci .i64 M) 3 1] := H_
  clear H_
  refine ql (.bool false) (by kernel_rfl) (by kernel_rfl) ?_
  refine wpList_nil ?_
  refine x_then ?_
  refine wp_seq ?_
  refine wp_seq ?_
  refine wp_region_lit ?_
  refine ql (.pointer (some ⟨g1, 0, none⟩)) (by kernel_rfl) (by kernel_rfl) ?_
  refine ql (.pointer (some ⟨g1, 0, none⟩)) (by kernel_rfl) (by kernel_rfl) ?_
  refine ql (.int .i64 n) (by kernel_rfl) (R_load (p := ⟨g1, 0, none⟩) (by kernel_rfl) (by kernel_rfl) (by kernel_rfl) (HS.cell (i := 2) (j := 0) rfl rfl)) ?_
  refine ql (.pointer (some ⟨g3, 0, none⟩)) (by kernel_rfl) (by kernel_rfl) ?_
  refine ql (.pointer (some ⟨g3, 0, none⟩)) (by kernel_rfl) (by kernel_rfl) ?_
  refine ql (.int .i64 m) (by kernel_rfl) (R_load (p := ⟨g3, 0, none⟩) (by kernel_rfl) (by kernel_rfl) (by kernel_rfl) (HS.cell (i := 1) (j := 0) rfl rfl)) ?_
  refine ql (.bool false) (by kernel_rfl) (R_beq (b := (n != m)) (by kernel_rfl) (bne_f (by omega))) ?_
  refine wpList_nil ?_
  refine x_then ?_
  refine wp_cond_false (by kernel_rfl) ?_
  refine wp_skip ?_
  refine x_then ?_
  refine wp_seq ?_
  refine wp_region_lit ?_
  refine ql (.pointer (some ⟨g1, 0, none⟩)) (by kernel_rfl) (by kernel_rfl) ?_
  refine ql (.agg #[.int .i64 n, .slice A L.length c]) (by kernel_rfl) (R_loadN (p := ⟨g1, 0, none⟩) [.int .i64 n, .slice A L.length c] (by kernel_rfl) (by kernel_rfl) (by kernel_rfl) (by kernel_rfl) (two_at (HS.cell (i := 2) (j := 0) rfl rfl) (HS.cell (i := 2) (j := 1) rfl rfl))) ?_
  refine ql (.pointer (some ⟨g3, 0, none⟩)) (by kernel_rfl) (by kernel_rfl) ?_
  refine ql (.agg #[.int .i64 m, .slice B M.length c2]) (by kernel_rfl) (R_loadN (p := ⟨g3, 0, none⟩) [.int .i64 m, .slice B M.length c2] (by kernel_rfl) (by kernel_rfl) (by kernel_rfl) (by kernel_rfl) (two_at (HS.cell (i := 1) (j := 0) rfl rfl) (HS.cell (i := 1) (j := 1) rfl rfl))) ?_
  refine qc (f := 45) (args := #[.agg #[.int .i64 n, .slice A L.length c], .agg #[.int .i64 m, .slice B M.length c2]]) (by kernel_rfl) (R_call #[.agg #[.int .i64 n, .slice A L.length c], .agg #[.int .i64 m, .slice B M.length c2]] Tryd.func45 (by kernel_rfl) (by kernel_rfl) (by kernel_rfl)) ?_
  replace HS : St W M_ W6 [row A L.length c (ci .i64 L) 3 1, row B M.length c2 (ci .i64 M) 3 1, blk g5 [.int .i64 0, .slice none 0 0, .bool false] 32, blk g3 [.int .i64 m, .slice B M.length c2, .bool false] 32, blk g1 [.int .i64 n, .slice A L.length c, .bool true] 32] := HS.perm (perm_ [3, 4, 0, 1, 2] (by kernel_rfl) rfl)
  refine (r3or_e2 A c L n B c2 M m _ _ (St.focus (F := [row A L.length c (ci .i64 L) 3 1, row B M.length c2 (ci .i64 M) 3 1]) HS) (by omega) (by omega) hnm hsM hlM).mono ?_
  rintro e W9 ⟨A7, c8, rfl, H_⟩
  refine ⟨_, rfl, ?_⟩
  replace HS : St W M_ W9 [row A7 ((uni L M).length) c8 (ci .i64 (uni L M)) 3 1, row B M.length c2 (ci .i64 M) 3 1, blk g5 [.int .i64 0, .slice none 0 0, .bool false] 32, blk g3 [.int .i64 m, .slice B M.length c2, .bool false] 32, blk g1 [.int .i64 n, .slice A L.length c, .bool true] 32] := HS.join (F := [row A L.length c (ci .i64 L) 3 1, row B M.length c2 (ci .i64 M) 3 1]) (G := [row A7 ((uni L M).length) c8 (ci .i64 (uni L M)) 3 1, row B M.length c2 (ci .i64 M) 3 1]) H_
  clear H_
  refine ql (.tuple #[.agg #[.int .i64 n, .slice A7 ((uni L M).length) c8], .bool (newB L M)]) (by kernel_rfl) (by kernel_rfl) ?_
  refine ql (.agg #[.int .i64 n, .slice A7 ((uni L M).length) c8]) (by kernel_rfl) (by kernel_rfl) ?_
  refine ql (.bool (newB L M)) (by kernel_rfl) (by kernel_rfl) ?_
  refine kb HS [.int .i64 0, .slice none 0 0] 30 (fun g => .pointer (some ⟨g, 0, none⟩)) (by kernel_rfl) (by kernel_rfl) ?_
  intro g10 W11 H_
  replace HS : St W M_ W11 [blk g10 [.int .i64 0, .slice none 0 0] 30, row A7 ((uni L M).length) c8 (ci .i64 (uni L M)) 3 1, row B M.length c2 (ci .i64 M) 3 1, blk g5 [.int .i64 0, .slice none 0 0, .bool false] 32, blk g3 [.int .i64 m, .slice B M.length c2, .bool false] 32, blk g1 [.int .i64 n, .slice A L.length c, .bool true] 32] := H_
  clear H_
  refine ks (v := .agg #[.int .i64 n, .slice A7 ((uni L M).length) c8]) HS 0 rfl (0) [.int .i64 n, .slice A7 ((uni L M).length) c8] (by kernel_rfl) (by kernel_rfl) (by kernel_rfl) (by kernel_rfl) (by kernel_rfl) (one_ (by kernel_rfl)) (Nat.le_of_ble_eq_true rfl) rfl ?_
  intro W12 H_
  replace HS : St W M_ W12 [blk g10 [.int .i64 n, .slice A7 ((uni L M).length) c8] 30, row A7 ((uni L M).length) c8 (ci .i64 (uni L M)) 3 1, row B M.length c2 (ci .i64 M) 3 1, blk g5 [.int .i64 0, .slice none 0 0, .bool false] 32, blk g3 [.int .i64 m, .slice B M.length c2, .bool false] 32, blk g1 [.int .i64 n, .slice A L.length c, .bool true] 32] := H_
  clear H_
  refine ql (.bool (newB L M)) (by kernel_rfl) (by kernel_rfl) ?_
  refine wpList_nil ?_
  refine x_then ?_
  refine wp_seq ?_
  refine wp_region_lit ?_
  refine ql (.agg #[.int .i64 n, .slice A7 ((uni L M).length) c8]) (by kernel_rfl) (R_loadN (p := ⟨g10, 0, none⟩) [.int .i64 n, .slice A7 ((uni L M).length) c8] (by kernel_rfl) (by kernel_rfl) (by kernel_rfl) (by kernel_rfl) (two_at (HS.cell (i := 0) (j := 0) rfl rfl) (HS.cell (i := 0) (j := 1) rfl rfl))) ?_
  refine ql (.pointer (some ⟨g1, 2, none⟩)) (by kernel_rfl) (by kernel_rfl) ?_
  refine ql (.bool true) (by kernel_rfl) (R_load (p := ⟨g1, 2, none⟩) (by kernel_rfl) (by kernel_rfl) (by kernel_rfl) (HS.cell (i := 5) (j := 2) rfl rfl)) ?_
  refine ql (.bool true) (by kernel_rfl) (by kernel_rfl) ?_
  refine qln (by kernel_rfl) ?_
  refine qln (by kernel_rfl) ?_
  refine ql (.bool true) (by kernel_rfl) (by kernel_rfl) ?_
  refine ql (.bool true) (by kernel_rfl) (by kernel_rfl) ?_
  refine qln (by kernel_rfl) ?_
  refine qln (by kernel_rfl) ?_
  refine qln (by kernel_rfl) ?_
  refine qln (by kernel_rfl) ?_
  refine ql (.bool true) (by kernel_rfl) (by kernel_rfl) ?_
  refine ql (.agg #[.int .i64 n, .slice A7 ((uni L M).length) c8, .bool true]) (by kernel_rfl) (by kernel_rfl) ?_
  refine ql (.bool (newB L M)) (by kernel_rfl) (by kernel_rfl) ?_
  refine ks (v := .agg #[.int .i64 n, .slice A7 ((uni L M).length) c8, .bool true]) HS 3 rfl (0) [.int .i64 n, .slice A7 ((uni L M).length) c8, .bool true] (by kernel_rfl) (by kernel_rfl) (by kernel_rfl) (by kernel_rfl) (by kernel_rfl) (one_ (by kernel_rfl)) (Nat.le_of_ble_eq_true rfl) rfl ?_
  intro W13 H_
  replace HS : St W M_ W13 [blk g10 [.int .i64 n, .slice A7 ((uni L M).length) c8] 30, row A7 ((uni L M).length) c8 (ci .i64 (uni L M)) 3 1, row B M.length c2 (ci .i64 M) 3 1, blk g5 [.int .i64 n, .slice A7 ((uni L M).length) c8, .bool true] 32, blk g3 [.int .i64 m, .slice B M.length c2, .bool false] 32, blk g1 [.int .i64 n, .slice A L.length c, .bool true] 32] := H_
  clear H_
  refine ql (.bool (newB L M)) (by kernel_rfl) (by kernel_rfl) ?_
  refine wpList_nil ?_
  refine x_then ?_
  refine wp_ret ?_
  refine ret_ (.tuple #[.agg #[.int .i64 n, .slice A7 ((uni L M).length) c8, .bool true], .bool (newB L M)]) (res2 rfl (oneRes_agg (p := ⟨g5, 0, none⟩) [.int .i64 n, .slice A7 ((uni L M).length) c8, .bool true] (by kernel_rfl) (by kernel_rfl) (by kernel_rfl) (by kernel_rfl) (HS.cellsN (i := 3) rfl)) (oneRes_t (by kernel_rfl))) ?_
  replace HS : St W M_ W13 [row A7 ((uni L M).length) c8 (ci .i64 (uni L M)) 3 1, row B M.length c2 (ci .i64 M) 3 1] := St.tail (F := [blk g10 [.int .i64 n, .slice A7 ((uni L M).length) c8] 30, blk g5 [.int .i64 n, .slice A7 ((uni L M).length) c8, .bool true] 32, blk g3 [.int .i64 m, .slice B M.length c2, .bool false] 32, blk g1 [.int .i64 n, .slice A L.length c, .bool true] 32]) (HS.perm (perm_ [0, 3, 4, 5, 1, 2] (by kernel_rfl) rfl))
  have hbv : (true || false || decide (8 < (uni L M).length)) = true := by first | rfl | (simp only [Bool.true_or, Bool.false_or, Bool.or_false, Bool.or_true]; done) | (simp only [Bool.true_or, Bool.false_or, Bool.or_false, Bool.or_true]; exact decide_eq_true (by omega))
  exact ⟨_, _, by rw [hbv], HS⟩

set_option maxRecDepth 100000 in
set_option maxHeartbeats 1000000 in
theorem r5or_ne_ft (A : Option Addr) (c : Nat) (L : List Int) (n : Int) (B : Option Addr) (c2 : Nat) (M : List Int) (m : Int) (W : World) (M_ : Nat → Prop) (HS : St W M_ W [row A L.length c (ci .i64 L) 3 1, row B M.length c2 (ci .i64 M) 3 1]) (hne : n ≠ m) : Calls Tryd.prog 27 #[.agg #[.int .i64 n, .slice A L.length c, .bool false], .agg #[.int .i64 m, .slice B M.length c2, .bool true]] W fun e W' => e = .returned (.tuple #[.agg #[.int .i64 n, .slice A L.length c, .bool false], .bool false]) ∧ St W M_ W' [row A L.length c (ci .i64 L) 3 1, row B M.length c2 (ci .i64 M) 3 1] := by
  have hul := uni_len M L
  refine calls_enter [.agg #[.int .i64 n, .slice A L.length c, .bool false], .agg #[.int .i64 m, .slice B M.length c2, .bool true], undef, undef, undef, undef, undef, undef, undef, undef, undef, undef, undef, undef, undef, undef, undef, undef, undef, undef, undef, undef, undef, undef, undef, undef, undef, undef, undef, undef, undef, undef, undef, undef, undef, undef, undef, undef, undef] Tryd.func27 rfl (by kernel_rfl) ?_
  refine wp_seq ?_
  refine wp_region_lit ?_
  refine kb HS [.int .i64 n, .slice A L.length c, .bool false] 32 (fun g => .pointer (some ⟨g, 0, none⟩)) (by kernel_rfl) (by kernel_rfl) ?_
  intro g1 W2 H_
  replace HS : St W M_ W2 [blk g1 [.int .i64 n, .slice A L.length c, .bool false] 32, row A L.length c (ci .i64 L) 3 1, row B M.length c2 (ci .i64 M) 3 1] := H_
  clear H_
  refine kb HS [.int .i64 m, .slice B M.length c2, .bool true] 32 (fun g => .pointer (some ⟨g, 0, none⟩)) (by kernel_rfl) (by kernel_rfl) ?_
  intro g3 W4 H_
  replace HS : St W M_ W4 [blk g3 [.int .i64 m, .slice B M.length c2, .bool true] 32, blk g1 [.int .i64 n, .slice A L.length c, .bool false] 32, row A L.length c (ci .i64 L) 3 1, row B M.length c2 (ci .i64 M) 3 1] := H_
  clear H_
  refine kb HS [.int .i64 0, .slice none 0 0, .bool false] 32 (fun g => .pointer (some ⟨g, 0, none⟩)) (by kernel_rfl) (by kernel_rfl) ?_
  intro g5 W6 H_
  replace HS : St W M_ W6 [blk g5 [.int .i64 0, .slice none 0 0, .bool false] 32, blk g3 [.int .i64 m, .slice B M.length c2, .bool true] 32, blk g1 [.int .i64 n, .slice A L.length c, .bool false] 32, row A L.length c (ci .i64 L) 3 1, row B M.length c2 (ci .i64 M) 3 1] := H_
  clear H_
  refine ql (.bool false) (by kernel_rfl) (by kernel_rfl) ?_
  refine wpList_nil ?_
  refine x_then ?_
  refine wp_seq ?_
  refine wp_seq ?_
  refine wp_region_lit ?_
  refine ql (.pointer (some ⟨g1, 0, none⟩)) (by kernel_rfl) (by kernel_rfl) ?_
  refine ql (.pointer (some ⟨g1, 0, none⟩)) (by kernel_rfl) (by kernel_rfl) ?_
  refine ql (.int .i64 n) (by kernel_rfl) (R_load (p := ⟨g1, 0, none⟩) (by kernel_rfl) (by kernel_rfl) (by kernel_rfl) (HS.cell (i := 2) (j := 0) rfl rfl)) ?_
  refine ql (.pointer (some ⟨g3, 0, none⟩)) (by kernel_rfl) (by kernel_rfl) ?_
  refine ql (.pointer (some ⟨g3, 0, none⟩)) (by kernel_rfl) (by kernel_rfl) ?_
  refine ql (.int .i64 m) (by kernel_rfl) (R_load (p := ⟨g3, 0, none⟩) (by kernel_rfl) (by kernel_rfl) (by kernel_rfl) (HS.cell (i := 1) (j := 0) rfl rfl)) ?_
  refine ql (.bool true) (by kernel_rfl) (R_beq (b := (n != m)) (by kernel_rfl) (bne_t (by omega))) ?_
  refine wpList_nil ?_
  refine x_then ?_
  refine wp_cond_true (by kernel_rfl) ?_
  refine wp_seq ?_
  refine wp_region_lit ?_
  refine ql (.agg #[.int .i64 n, .slice A L.length c, .bool false]) (by kernel_rfl) (R_loadN (p := ⟨g1, 0, none⟩) [.int .i64 n, .slice A L.length c, .bool false] (by kernel_rfl) (by kernel_rfl) (by kernel_rfl) (by kernel_rfl) (three_at (HS.cell (i := 2) (j := 0) rfl rfl) (HS.cell (i := 2) (j := 1) rfl rfl) (HS.cell (i := 2) (j := 2) rfl rfl))) ?_
  refine ks (v := .agg #[.int .i64 n, .slice A L.length c, .bool false]) HS 0 rfl (0) [.int .i64 n, .slice A L.length c, .bool false] (by kernel_rfl) (by kernel_rfl) (by kernel_rfl) (by kernel_rfl) (by kernel_rfl) (one_ (by kernel_rfl)) (Nat.le_of_ble_eq_true rfl) rfl ?_
  intro W7 H_
  replace HS : St W M_ W7 [blk g5 [.int .i64 n, .slice A L.length c, .bool false] 32, blk g3 [.int .i64 m, .slice B M.length c2, .bool true] 32, blk g1 [.int .i64 n, .slice A L.length c, .bool false] 32, row A L.length c (ci .i64 L) 3 1, row B M.length c2 (ci .i64 M) 3 1] := H_
  clear H_
  refine ql (.bool false) (by kernel_rfl) (by kernel_rfl) ?_
  refine wpList_nil ?_
  refine x_then ?_
  refine wp_ret ?_
  refine x_thenR ?_
  refine ret_ (.tuple #[.agg #[.int .i64 n, .slice A L.length c, .bool false], .bool false]) (res2 rfl (oneRes_agg (p := ⟨g5, 0, none⟩) [.int .i64 n, .slice A L.length c, .bool false] (by kernel_rfl) (by kernel_rfl) (by kernel_rfl) (by kernel_rfl) (HS.cellsN (i := 0) rfl)) (oneRes_t (by kernel_rfl))) ?_
  replace HS := HS.drop1
  replace HS := HS.drop1
  replace HS := HS.drop1
  exact ⟨rfl, HS⟩

set_option maxRecDepth 100000 in
set_option maxHeartbeats 1000000 in
theorem r5or_eq_ft (A : Option Addr) (c : Nat) (L : List Int) (n : Int) (B : Option Addr) (c2 : Nat) (M : List Int) (m : Int) (W : World) (M_ : Nat → Prop) (HS : St W M_ W [row A L.length c (ci .i64 L) 3 1, row B M.length c2 (ci .i64 M) 3 1]) (hl : L.length ≤ 40000) (hl2 : M.length ≤ 40000) (hnm : n = m) (hsM : M.Pairwise (· < ·)) (hlM : ∀ x ∈ M, 0 ≤ x ∧ x < m) : Calls Tryd.prog 27 #[.agg #[.int .i64 n, .slice A L.length c, .bool false], .agg #[.int .i64 m, .slice B M.length c2, .bool true]] W fun e W' => ∃ A' c', e = .returned (.tuple #[.agg #[.int .i64 n, .slice A' (uni L M).length c', .bool (false || true || decide (8 < (uni L M).length))], .bool (newB L M)]) ∧ St W M_ W' [row A' ((uni L M).length) c' (ci .i64 (uni L M)) 3 1, row B M.length c2 (ci .i64 M) 3 1] := by
  have hul := uni_len M L
  refine calls_enter [.agg #[.int .i64 n, .slice A L.length c, .bool false], .agg #[.int .i64 m, .slice B M.length c2, .bool true], undef, undef, undef, undef, undef, undef, undef, undef, undef, undef, undef, undef, undef, undef, undef, undef, undef, undef, undef, undef, undef, undef, undef, undef, undef, undef, undef, undef, undef, undef, undef, undef, undef, undef, undef, undef, undef] Tryd.func27 rfl (by kernel_rfl) ?_
  refine wp_seq ?_
  refine wp_region_lit ?_
  refine kb HS [.int .i64 n, .slice A L.length c, .bool false] 32 (fun g => .pointer (some ⟨g, 0, none⟩)) (by kernel_rfl) (by kernel_rfl) ?_
  intro g1 W2 H_
  replace HS : St W M_ W2 [blk g1 [.int .i64 n, .slice A L.length c, .bool false] 32, row A L.length c (ci .i64 L) 3 1, row B M.length c2 (ci .i64 M) 3 1] := H_
  clear H_
  refine kb HS [.int .i64 m, .slice B M.length c2, .bool true] 32 (fun g => .pointer (some ⟨g, 0, none⟩)) (by kernel_rfl) (by kernel_rfl) ?_
  intro g3 W4 H_
  replace HS : St W M_ W4 [blk g3 [.int .i64 m, .slice B M.length c2, .bool true] 32, blk g1 [.int .i64 n, .slice A L.length c, .bool false] 32, row A L.length c (ci .i64 L) 3 1, row B M.length c2 (ci .i64 M) 3 1] := H_
  clear H_
  refine kb HS [.int .i64 0, .slice none 0 0, .bool false] 32 (fun g => .pointer (some ⟨g, 0, none⟩)) (by kernel_rfl) (by kernel_rfl) ?_
  intro g5 W6 H_
  replace HS : St W M_ W6 [blk g5 [.int .i64 0, .slice none 0 0, .bool false] 32, blk g3 [.int .i64 m, .slice B M.length c2, .bool true] 32, blk g1 [.int .i64 n, .slice A L.length c, .bool false] 32, row A L.length c (ci .i64 L) 3 1, row B M.length c2 (ci .i64 M) 3 1] := H_
  clear H_
  refine ql (.bool false) (by kernel_rfl) (by kernel_rfl) ?_
  refine wpList_nil ?_
  refine x_then ?_
  refine wp_seq ?_
  refine wp_seq ?_
  refine wp_region_lit ?_
  refine ql (.pointer (some ⟨g1, 0, none⟩)) (by kernel_rfl) (by kernel_rfl) ?_
  refine ql (.pointer (some ⟨g1, 0, none⟩)) (by kernel_rfl) (by kernel_rfl) ?_
  refine ql (.int .i64 n) (by kernel_rfl) (R_load (p := ⟨g1, 0, none⟩) (by kernel_rfl) (by kernel_rfl) (by kernel_rfl) (HS.cell (i := 2) (j := 0) rfl rfl)) ?_
  refine ql (.pointer (some ⟨g3, 0, none⟩)) (by kernel_rfl) (by kernel_rfl) ?_
  refine ql (.pointer (some ⟨g3, 0, none⟩)) (by kernel_rfl) (by kernel_rfl) ?_
  refine ql (.int .i64 m) (by kernel_rfl) (R_load (p := ⟨g3, 0, none⟩) (by kernel_rfl) (by kernel_rfl) (by kernel_rfl) (HS.cell (i := 1) (j := 0) rfl rfl)) ?_
  refine ql (.bool false) (by kernel_rfl) (R_beq (b := (n != m)) (by kernel_rfl) (bne_f (by omega))) ?_
  refine wpList_nil ?_
  refine x_then ?_
  refine wp_cond_false (by kernel_rfl) ?_
  refine wp_skip ?_
  refine x_then ?_
  refine wp_seq ?_
  refine wp_region_lit ?_
  refine ql (.pointer (some ⟨g1, 0, none⟩)) (by kernel_rfl) (by kernel_rfl) ?_
  refine ql (.agg #[.int .i64 n, .slice A L.length c]) (by kernel_rfl) (R_loadN (p := ⟨g1, 0, none⟩) [.int .i64 n, .slice A L.length c] (by kernel_rfl) (by kernel_rfl) (by kernel_rfl) (by kernel_rfl) (two_at (HS.cell (i := 2) (j := 0) rfl rfl) (HS.cell (i := 2) (j := 1) rfl rfl))) ?_
  refine ql (.pointer (some ⟨g3, 0, none⟩)) (by kernel_rfl) (by kernel_rfl) ?_
  refine ql (.agg #[.int .i64 m, .slice B M.length c2]) (by kernel_rfl) (R_loadN (p := ⟨g3, 0, none⟩) [.int .i64 m, .slice B M.length c2] (by kernel_rfl) (by kernel_rfl) (by kernel_rfl) (by kernel_rfl) (two_at (HS.cell (i := 1) (j := 0) rfl rfl) (HS.cell (i := 1) (j := 1) rfl rfl))) ?_
  refine qc (f := 45) (args := #[.agg #[.int .i64 n, .slice A L.length c], .agg #[.int .i64 m, .slice B M.length c2]]) (by kernel_rfl) (R_call #[.agg #[.int .i64 n, .slice A L.length c], .agg #[.int .i64 m, .slice B M.length c2]] Tryd.func45 (by kernel_rfl) (by kernel_rfl) (by kernel_rfl)) ?_
  replace HS : St W M_ W6 [row A L.length c (ci .i64 L) 3 1, row B M.length c2 (ci .i64 M) 3 1, blk g5 [.int .i64 0, .slice none 0 0, .bool false] 32, blk g3 [.int .i64 m, .slice B M.length c2, .bool true] 32, blk g1 [.int .i64 n, .slice A L.length c, .bool false] 32] := HS.perm (perm_ [3, 4, 0, 1, 2] (by kernel_rfl) rfl)
  refine (r3or_e2 A c L n B c2 M m _ _ (St.focus (F := [row A L.length c (ci .i64 L) 3 1, row B M.length c2 (ci .i64 M) 3 1]) HS) (by omega) (by omega) hnm hsM hlM).mono ?_
  rintro e W9 ⟨A7, c8, rfl, H_⟩
  refine ⟨_, rfl, ?_⟩
  replace HS : St W M_ W9 [row A7 ((uni L M).length) c8 (ci .i64 (uni L M)) 3 1, row B M.length c2 (ci .i64 M) 3 1, blk g5 [.int .i64 0, .slice none 0 0, .bool false] 32, blk g3 [.int .i64 m, .slice B M.length c2, .bool true] 32, blk g1 [.int .i64 n, .slice A L.length c, .bool false] 32] := HS.join (F := [row A L.length c (ci .i64 L) 3 1, row B M.length c2 (ci .i64 M) 3 1]) (G := [row A7 ((uni L M).length) c8 (ci .i64 (uni L M)) 3 1, row B M.length c2 (ci .i64 M) 3 1]) H_
  clear H_
  refine ql (.tuple #[.agg #[.int .i64 n, .slice A7 ((uni L M).length) c8], .bool (newB L M)]) (by kernel_rfl) (by kernel_rfl) ?_
  refine ql (.agg #[.int .i64 n, .slice A7 ((uni L M).length) c8]) (by kernel_rfl) (by kernel_rfl) ?_
  refine ql (.bool (newB L M)) (by kernel_rfl) (by kernel_rfl) ?_
  refine kb HS [.int .i64 0, .slice none 0 0] 30 (fun g => .pointer (some ⟨g, 0, none⟩)) (by kernel_rfl) (by kernel_rfl) ?_
  intro g10 W11 H_
  replace HS : St W M_ W11 [blk g10 [.int .i64 0, .slice none 0 0] 30, row A7 ((uni L M).length) c8 (ci .i64 (uni L M)) 3 1, row B M.length c2 (ci .i64 M) 3 1, blk g5 [.int .i64 0, .slice none 0 0, .bool false] 32, blk g3 [.int .i64 m, .slice B M.length c2, .bool true] 32, blk g1 [.int .i64 n, .slice A L.length c, .bool false] 32] := H_
  clear H_
  refine ks (v := .agg #[.int .i64 n, .slice A7 ((uni L M).length) c8]) HS 0 rfl (0) [.int .i64 n, .slice A7 ((uni L M).length) c8] (by kernel_rfl) (by kernel_rfl) (by kernel_rfl) (by kernel_rfl) (by kernel_rfl) (one_ (by kernel_rfl)) (Nat.le_of_ble_eq_true rfl) rfl ?_
  intro W12 H_
  replace HS : St W M_ W12 [blk g10 [.int .i64 n, .slice A7 ((uni L M).length) c8] 30, row A7 ((uni L M).length) c8 (ci .i64 (uni L M)) 3 1, row B M.length c2 (ci .i64 M) 3 1, blk g5 [.int .i64 0, .slice none 0 0, .bool false] 32, blk g3 [.int .i64 m, .slice B M.length c2, .bool true] 32, blk g1 [.int .i64 n, .slice A L.length c, .bool false] 32] := H_
  clear H_
  refine ql (.bool (newB L M)) (by kernel_rfl) (by kernel_rfl) ?_
  refine wpList_nil ?_
  refine x_then ?_
  refine wp_seq ?_
  refine wp_region_lit ?_
  refine ql (.agg #[.int .i64 n, .slice A7 ((uni L M).length) c8]) (by kernel_rfl) (R_loadN (p := ⟨g10, 0, none⟩) [.int .i64 n, .slice A7 ((uni L M).length) c8] (by kernel_rfl) (by kernel_rfl) (by kernel_rfl) (by kernel_rfl) (two_at (HS.cell (i := 0) (j := 0) rfl rfl) (HS.cell (i := 0) (j := 1) rfl rfl))) ?_
  refine ql (.pointer (some ⟨g1, 2, none⟩)) (by kernel_rfl) (by kernel_rfl) ?_
  refine ql (.bool false) (by kernel_rfl) (R_load (p := ⟨g1, 2, none⟩) (by kernel_rfl) (by kernel_rfl) (by kernel_rfl) (HS.cell (i := 5) (j := 2) rfl rfl)) ?_
  refine ql (.bool false) (by kernel_rfl) (by kernel_rfl) ?_
  refine ql (.pointer (some ⟨g3, 2, none⟩)) (by kernel_rfl) (by kernel_rfl) ?_
  refine ql (.bool true) (by kernel_rfl) (R_load (p := ⟨g3, 2, none⟩) (by kernel_rfl) (by kernel_rfl) (by kernel_rfl) (HS.cell (i := 4) (j := 2) rfl rfl)) ?_
  refine ql (.bool true) (by kernel_rfl) (by kernel_rfl) ?_
  refine ql (.bool true) (by kernel_rfl) (by kernel_rfl) ?_
  refine qln (by kernel_rfl) ?_
  refine qln (by kernel_rfl) ?_
  refine qln (by kernel_rfl) ?_
  refine qln (by kernel_rfl) ?_
  refine ql (.bool true) (by kernel_rfl) (by kernel_rfl) ?_
  refine ql (.agg #[.int .i64 n, .slice A7 ((uni L M).length) c8, .bool true]) (by kernel_rfl) (by kernel_rfl) ?_
  refine ql (.bool (newB L M)) (by kernel_rfl) (by kernel_rfl) ?_
  refine ks (v := .agg #[.int .i64 n, .slice A7 ((uni L M).length) c8, .bool true]) HS 3 rfl (0) [.int .i64 n, .slice A7 ((uni L M).length) c8, .bool true] (by kernel_rfl) (by kernel_rfl) (by kernel_rfl) (by kernel_rfl) (by kernel_rfl) (one_ (by kernel_rfl)) (Nat.le_of_ble_eq_true rfl) rfl ?_
  intro W13 H_
  replace HS : St W M_ W13 [blk g10 [.int .i64 n, .slice A7 ((uni L M).length) c8] 30, row A7 ((uni L M).length) c8 (ci .i64 (uni L M)) 3 1, row B M.length c2 (ci .i64 M) 3 1, blk g5 [.int .i64 n, .slice A7 ((uni L M).length) c8, .bool true] 32, blk g3 [.int .i64 m, .slice B M.length c2, .bool true] 32, blk g1 [.int .i64 n, .slice A L.length c, .bool false] 32] := H_
  clear H_
  refine ql (.bool (newB L M)) (by kernel_rfl) (by kernel_rfl) ?_
  refine wpList_nil ?_
  refine x_then ?_
  refine wp_ret ?_
  refine ret_ (.tuple #[.agg #[.int .i64 n, .slice A7 ((uni L M).length) c8, .bool true], .bool (newB L M)]) (res2 rfl (oneRes_agg (p := ⟨g5, 0, none⟩) [.int .i64 n, .slice A7 ((uni L M).length) c8, .bool true] (by kernel_rfl) (by kernel_rfl) (by kernel_rfl) (by kernel_rfl) (HS.cellsN (i := 3) rfl)) (oneRes_t (by kernel_rfl))) ?_
  replace HS : St W M_ W13 [row A7 ((uni L M).length) c8 (ci .i64 (uni L M)) 3 1, row B M.length c2 (ci .i64 M) 3 1] := St.tail (F := [blk g10 [.int .i64 n, .slice A7 ((uni L M).length) c8] 30, blk g5 [.int .i64 n, .slice A7 ((uni L M).length) c8, .bool true] 32, blk g3 [.int .i64 m, .slice B M.length c2, .bool true] 32, blk g1 [.int .i64 n, .slice A L.length c, .bool false] 32]) (HS.perm (perm_ [0, 3, 4, 5, 1, 2] (by kernel_rfl) rfl))
  have hbv : (false || true || decide (8 < (uni L M).length)) = true := by first | rfl | (simp only [Bool.true_or, Bool.false_or, Bool.or_false, Bool.or_true]; done) | (simp only [Bool.true_or, Bool.false_or, Bool.or_false, Bool.or_true]; exact decide_eq_true (by omega))
  exact ⟨_, _, by rw [hbv], HS⟩

set_option maxRecDepth 100000 in
set_option maxHeartbeats 1000000 in
theorem r5or_ne_ff (A : Option Addr) (c : Nat) (L : List Int) (n : Int) (B : Option Addr) (c2 : Nat) (M : List Int) (m : Int) (W : World) (M_ : Nat → Prop) (HS : St W M_ W [row A L.length c (ci .i64 L) 3 1, row B M.length c2 (ci .i64 M) 3 1]) (hne : n ≠ m) : Calls Tryd.prog 27 #[.agg #[.int .i64 n, .slice A L.length c, .bool false], .agg #[.int .i64 m, .slice B M.length c2, .bool false]] W fun e W' => e = .returned (.tuple #[.agg #[.int .i64 n, .slice A L.length c, .bool false], .bool false]) ∧ St W M_ W' [row A L.length c (ci .i64 L) 3 1, row B M.length c2 (ci .i64 M) 3 1] := by
  have hul := uni_len M L
  refine calls_enter [.agg #[.int .i64 n, .slice A L.length c, .bool false], .agg #[.int .i64 m, .slice B M.length c2, .bool false], undef, undef, undef, undef, undef, undef, undef, undef, undef, undef, undef, undef, undef, undef, undef, undef, undef, undef, undef, undef, undef, undef, undef, undef, undef, undef, undef, undef, undef, undef, undef, undef, undef, undef, undef, undef, undef] Tryd.func27 rfl (by kernel_rfl) ?_
  refine wp_seq ?_
  refine wp_region_lit ?_
  refine kb HS [.int .i64 n, .slice A L.length c, .bool false] 32 (fun g => .pointer (some ⟨g, 0, none⟩)) (by kernel_rfl) (by kernel_rfl) ?_
  intro g1 W2 H_
  replace HS : St W M_ W2 [blk g1 [.int .i64 n, .slice A L.length c, .bool false] 32, row A L.length c (ci .i64 L) 3 1, row B M.length c2 (ci .i64 M) 3 1] := H_
  clear H_
  refine kb HS [.int .i64 m, .slice B M.length c2, .bool false] 32 (fun g => .pointer (some ⟨g, 0, none⟩)) (by kernel_rfl) (by kernel_rfl) ?_
  intro g3 W4 H_
  replace HS : St W M_ W4 [blk g3 [.int .i64 m, .slice B M.length c2, .bool false] 32, blk g1 [.int .i64 n, .slice A L.length c, .bool false] 32, row A L.length c (ci .i64 L) 3 1, row B M.length c2 (ci .i64 M) 3 1] := H_
  clear H_
  refine kb HS [.int .i64 0, .slice none 0 0, .bool false] 32 (fun g => .pointer (some ⟨g, 0, none⟩)) (by kernel_rfl) (by kernel_rfl) ?_
  intro g5 W6 H_
  replace HS : St W M_ W6 [blk g5 [.int .i64 0, .slice none 0 0, .bool false] 32, blk g3 [.int .i64 m, .slice B M.length c2, .bool false] 32, blk g1 [.int .i64 n, .slice A L.length c, .bool false] 32, row A L.length c (ci .i64 L) 3 1, row B M.length c2 (ci .i64 M) 3 1] := H_
  clear H_
  refine ql (.bool false) (by kernel_rfl) (by kernel_rfl) ?_
  refine wpList_nil ?_
  refine x_then ?_
  refine wp_seq ?_
  refine wp_seq ?_
  refine wp_region_lit ?_
  refine ql (.pointer (some ⟨g1, 0, none⟩)) (by kernel_rfl) (by kernel_rfl) ?_
  refine ql (.pointer (some ⟨g1, 0, none⟩)) (by kernel_rfl) (by kernel_rfl) ?_
  refine ql (.int .i64 n) (by kernel_rfl) (R_load (p := ⟨g1, 0, none⟩) (by kernel_rfl) (by kernel_rfl) (by kernel_rfl) (HS.cell (i := 2) (j := 0) rfl rfl)) ?_
  refine ql (.pointer (some ⟨g3, 0, none⟩)) (by kernel_rfl) (by kernel_rfl) ?_
  refine ql (.pointer (some ⟨g3, 0, none⟩)) (by kernel_rfl) (by kernel_rfl) ?_
  refine ql (.int .i64 m) (by kernel_rfl) (R_load (p := ⟨g3, 0, none⟩) (by kernel_rfl) (by kernel_rfl) (by kernel_rfl) (HS.cell (i := 1) (j := 0) rfl rfl)) ?_
  refine ql (.bool true) (by kernel_rfl) (R_beq (b := (n != m)) (by kernel_rfl) (bne_t (by omega))) ?_
  refine wpList_nil ?_
  refine x_then ?_
  refine wp_cond_true (by kernel_rfl) ?_
  refine wp_seq ?_
  refine wp_region_lit ?_
  refine ql (.agg #[.int .i64 n, .slice A L.length c, .bool false]) (by kernel_rfl) (R_loadN (p := ⟨g1, 0, none⟩) [.int .i64 n, .slice A L.length c, .bool false] (by kernel_rfl) (by kernel_rfl) (by kernel_rfl) (by kernel_rfl) (three_at (HS.cell (i := 2) (j := 0) rfl rfl) (HS.cell (i := 2) (j := 1) rfl rfl) (HS.cell (i := 2) (j := 2) rfl rfl))) ?_
  refine ks (v := .agg #[.int .i64 n, .slice A L.length c, .bool false]) HS 0 rfl (0) [.int .i64 n, .slice A L.length c, .bool false] (by kernel_rfl) (by kernel_rfl) (by kernel_rfl) (by kernel_rfl) (by kernel_rfl) (one_ (by kernel_rfl)) (Nat.le_of_ble_eq_true rfl) rfl ?_
  intro W7 H_
  replace HS : St W M_ W7 [blk g5 [.int .i64 n, .slice A L.length c, .bool false] 32, blk g3 [.int .i64 m, .slice B M.length c2, .bool false] 32, blk g1 [.int .i64 n, .slice A L.length c, .bool false] 32, row A L.length c (ci .i64 L) 3 1, row B M.length c2 (ci .i64 M) 3 1] := H_
  clear H_
  refine ql (.bool false) (by kernel_rfl) (by kernel_rfl) ?_
  refine wpList_nil ?_
  refine x_then ?_
  refine wp_ret ?_
  refine x_thenR ?_
  refine ret_ (.tuple #[.agg #[.int .i64 n, .slice A L.length c, .bool false], .bool false]) (res2 rfl (oneRes_agg (p := ⟨g5, 0, none⟩) [.int .i64 n, .slice A L.length c, .bool false] (by kernel_rfl) (by kernel_rfl) (by kernel_rfl) (by kernel_rfl) (HS.cellsN (i := 0) rfl)) (oneRes_t (by kernel_rfl))) ?_
  replace HS := HS.drop1
  replace HS := HS.drop1
  replace HS := HS.drop1
  exact ⟨rfl, HS⟩

set_option maxRecDepth 100000 in
set_option maxHeartbeats 1000000 in
theorem r5or_eq_ff (A : Option Addr) (c : Nat) (L : List Int) (n : Int) (B : Option Addr) (c2 : Nat) (M : List Int) (m : Int) (W : World) (M_ : Nat → Prop) (HS : St W M_ W [row A L.length c (ci .i64 L) 3 1, row B M.length c2 (ci .i64 M) 3 1]) (hl : L.length ≤ 40000) (hl2 : M.length ≤ 40000) (hnm : n = m) (hsM : M.Pairwise (· < ·)) (hlM : ∀ x ∈ M, 0 ≤ x ∧ x < m) : Calls Tryd.prog 27 #[.agg #[.int .i64 n, .slice A L.length c, .bool false], .agg #[.int .i64 m, .slice B M.length c2, .bool false]] W fun e W' => ∃ A' c', e = .returned (.tuple #[.agg #[.int .i64 n, .slice A' (uni L M).length c', .bool (false || false || decide (8 < (uni L M).length))], .bool (newB L M)]) ∧ St W M_ W' [row A' ((uni L M).length) c' (ci .i64 (uni L M)) 3 1, row B M.length c2 (ci .i64 M) 3 1] := by
  have hul := uni_len M L
  refine calls_enter [.agg #[.int .i64 n, .slice A L.length c, .bool false], .agg #[.int .i64 m, .slice B M.length c2, .bool false], undef, undef, undef, undef, undef, undef, undef, undef, undef, undef, undef, undef, undef, undef, undef, undef, undef, undef, undef, undef, undef, undef, undef, undef, undef, undef, undef, undef, undef, undef, undef, undef, undef, undef, undef, undef, undef] Tryd.func27 rfl (by kernel_rfl) ?_
  refine wp_seq ?_
  refine wp_region_lit ?_
  refine kb HS [.int .i64 n, .slice A L.length c, .bool false] 32 (fun g => .pointer (some ⟨g, 0, none⟩)) (by kernel_rfl) (by kernel_rfl) ?_
  intro g1 W2 H_
  replace HS : St W M_ W2 [blk g1 [.int .i64 n, .slice A L.length c, .bool false] 32, row A L.length c (ci .i64 L) 3 1, row B M.length c2 (ci .i64 M) 3 1] := H_
  clear H_
  refine kb HS [.int .i64 m, .slice B M.length c2, .bool false] 32 (fun g => .pointer (some ⟨g, 0, none⟩)) (by kernel_rfl) (by kernel_rfl) ?_
  intro g3 W4 H_
  replace HS : St W M_ W4 [blk g3 [.int .i64 m, .slice B M.length c2, .bool false] 32, blk g1 [.int .i64 n, .slice A L.length c, .bool false] 32, row A L.length c (ci .i64 L) 3 1, row B M.length c2 (ci .i64 M) 3 1] := H_
  clear H_
  refine kb HS [.int .i64 0, .slice none 0 0, .bool false] 32 (fun g => .pointer (some ⟨g, 0, none⟩)) (by kernel_rfl) (by kernel_rfl) ?_
  intro g5 W6 H_
  replace HS : St W M_ W6 [blk g5 [.int .i64 0, .slice none 0 0, .bool false] 32, blk g3 [.int .i64 m, .slice B M.length c2, .bool false] 32, blk g1 [.int .i64 n, .slice A L.length c, .bool false] 32, row A L.length c (ci .i64 L) 3 1, row B M.length c2 (ci .i64 M) 3 1] := H_
  clear H_
  refine ql (.bool false) (by kernel_rfl) (by kernel_rfl) ?_
  refine wpList_nil ?_
  refine x_then ?_
  refine wp_seq ?_
  refine wp_seq ?_
  refine wp_region_lit ?_
  refine ql (.pointer (some ⟨g1, 0, none⟩)) (by kernel_rfl) (by kernel_rfl) ?_
  refine ql (.pointer (some ⟨g1, 0, none⟩)) (by kernel_rfl) (by kernel_rfl) ?_
  refine ql (.int .i64 n) (by kernel_rfl) (R_load (p := ⟨g1, 0, none⟩) (by kernel_rfl) (by kernel_rfl) (by kernel_rfl) (HS.cell (i := 2) (j := 0) rfl rfl)) ?_
  refine ql (.pointer (some ⟨g3, 0, none⟩)) (by kernel_rfl) (by kernel_rfl) ?_
  refine ql (.pointer (some ⟨g3, 0, none⟩)) (by kernel_rfl) (by kernel_rfl) ?_
  refine ql (.int .i64 m) (by kernel_rfl) (R_load (p := ⟨g3, 0, none⟩) (by kernel_rfl) (by kernel_rfl) (by kernel_rfl) (HS.cell (i := 1) (j := 0) rfl rfl)) ?_
  refine ql (.bool false) (by kernel_rfl) (R_beq (b := (n != m)) (by kernel_rfl) (bne_f (by omega))) ?_
  refine wpList_nil ?_
  refine x_then ?_
  refine wp_cond_false (by kernel_rfl) ?_
  refine wp_skip ?_
  refine x_then ?_
  refine wp_seq ?_
  refine wp_region_lit ?_
  refine ql (.pointer (some ⟨g1, 0, none⟩)) (by kernel_rfl) (by kernel_rfl) ?_
  refine ql (.agg #[.int .i64 n, .slice A L.length c]) (by kernel_rfl) (R_loadN (p := ⟨g1, 0, none⟩) [.int .i64 n, .slice A L.length c] (by kernel_rfl) (by kernel_rfl) (by kernel_rfl) (by kernel_rfl) (two_at (HS.cell (i := 2) (j := 0) rfl rfl) (HS.cell (i := 2) (j := 1) rfl rfl))) ?_
  refine ql (.pointer (some ⟨g3, 0, none⟩)) (by kernel_rfl) (by kernel_rfl) ?_
  refine ql (.agg #[.int .i64 m, .slice B M.length c2]) (by kernel_rfl) (R_loadN (p := ⟨g3, 0, none⟩) [.int .i64 m, .slice B M.length c2] (by kernel_rfl) (by kernel_rfl) (by kernel_rfl) (by kernel_rfl) (two_at (HS.cell (i := 1) (j := 0) rfl rfl) (HS.cell (i := 1) (j := 1) rfl rfl))) ?_
  refine qc (f := 45) (args := #[.agg #[.int .i64 n, .slice A L.length c], .agg #[.int .i64 m, .slice B M.length c2]]) (by kernel_rfl) (R_call #[.agg #[.int .i64 n, .slice A L.length c], .agg #[.int .i64 m, .slice B M.length c2]] Tryd.func45 (by kernel_rfl) (by kernel_rfl) (by kernel_rfl)) ?_
  replace HS : St W M_ W6 [row A L.length c (ci .i64 L) 3 1, row B M.length c2 (ci .i64 M) 3 1, blk g5 [.int .i64 0, .slice none 0 0, .bool false] 32, blk g3 [.int .i64 m, .slice B M.length c2, .bool false] 32, blk g1 [.int .i64 n, .slice A L.length c, .bool false] 32] := HS.perm (perm_ [3, 4, 0, 1, 2] (by kernel_rfl) rfl)
  refine (r3or_e2 A c L n B c2 M m _ _ (St.focus (F := [row A L.length c (ci .i64 L) 3 1, row B M.length c2 (ci .i64 M) 3 1]) HS) (by omega) (by omega) hnm hsM hlM).mono ?_
  rintro e W9 ⟨A7, c8, rfl, H_⟩
  refine ⟨_, rfl, ?_⟩
  replace HS : St W M_ W9 [row A7 ((uni L M).length) c8 (ci .i64 (uni L M)) 3 1, row B M.length c2 (ci .i64 M) 3 1, blk g5 [.int .i64 0, .slice none 0 0, .bool false] 32, blk g3 [.int .i64 m, .slice B M.length c2, .bool false] 32, blk g1 [.int .i64 n, .slice A L.length c, .bool false] 32] := HS.join (F := [row A L.length c (ci .i64 L) 3 1, row B M.length c2 (ci .i64 M) 3 1]) (G := [row A7 ((uni L M).length) c8 (ci .i64 (uni L M)) 3 1, row B M.length c2 (ci .i64 M) 3 1]) H_
  clear H_
  refine ql (.tuple #[.agg #[.int .i64 n, .slice A7 ((uni L M).length) c8], .bool (newB L M)]) (by kernel_rfl) (by kernel_rfl) ?_
  refine ql (.agg #[.int .i64 n, .slice A7 ((uni L M).length) c8]) (by kernel_rfl) (by kernel_rfl) ?_
  refine ql (.bool (newB L M)) (by kernel_rfl) (by kernel_rfl) ?_
  refine kb HS [.int .i64 0, .slice none 0 0] 30 (fun g => .pointer (some ⟨g, 0, none⟩)) (by kernel_rfl) (by kernel_rfl) ?_
  intro g10 W11 H_
  replace HS : St W M_ W11 [blk g10 [.int .i64 0, .slice none 0 0] 30, row A7 ((uni L M).length) c8 (ci .i64 (uni L M)) 3 1, row B M.length c2 (ci .i64 M) 3 1, blk g5 [.int .i64 0, .slice none 0 0, .bool false] 32, blk g3 [.int .i64 m, .slice B M.length c2, .bool false] 32, blk g1 [.int .i64 n, .slice A L.length c, .bool false] 32] := H_
  clear H_
  refine ks (v := .agg #[.int .i64 n, .slice A7 ((uni L M).length) c8]) HS 0 rfl (0) [.int .i64 n, .slice A7 ((uni L M).length) c8] (by kernel_rfl) (by kernel_rfl) (by kernel_rfl) (by kernel_rfl) (by kernel_rfl) (one_ (by kernel_rfl)) (Nat.le_of_ble_eq_true rfl) rfl ?_
  intro W12 H_
  replace HS : St W M_ W12 [blk g10 [.int .i64 n, .slice A7 ((uni L M).length) c8] 30, row A7 ((uni L M).length) c8 (ci .i64 (uni L M)) 3 1, row B M.length c2 (ci .i64 M) 3 1, blk g5 [.int .i64 0, .slice none 0 0, .bool false] 32, blk g3 [.int .i64 m, .slice B M.length c2, .bool false] 32, blk g1 [.int .i64 n, .slice A L.length c, .bool false] 32] := H_
  clear H_
  refine ql (.bool (newB L M)) (by kernel_rfl) (by kernel_rfl) ?_
  refine wpList_nil ?_
  refine x_then ?_
  refine wp_seq ?_
  refine wp_region_lit ?_
  refine ql (.agg #[.int .i64 n, .slice A7 ((uni L M).length) c8]) (by kernel_rfl) (R_loadN (p := ⟨g10, 0, none⟩) [.int .i64 n, .slice A7 ((uni L M).length) c8] (by kernel_rfl) (by kernel_rfl) (by kernel_rfl) (by kernel_rfl) (two_at (HS.cell (i := 0) (j := 0) rfl rfl) (HS.cell (i := 0) (j := 1) rfl rfl))) ?_
  refine ql (.pointer (some ⟨g1, 2, none⟩)) (by kernel_rfl) (by kernel_rfl) ?_
  refine ql (.bool false) (by kernel_rfl) (R_load (p := ⟨g1, 2, none⟩) (by kernel_rfl) (by kernel_rfl) (by kernel_rfl) (HS.cell (i := 5) (j := 2) rfl rfl)) ?_
  refine ql (.bool false) (by kernel_rfl) (by kernel_rfl) ?_
  refine ql (.pointer (some ⟨g3, 2, none⟩)) (by kernel_rfl) (by kernel_rfl) ?_
  refine ql (.bool false) (by kernel_rfl) (R_load (p := ⟨g3, 2, none⟩) (by kernel_rfl) (by kernel_rfl) (by kernel_rfl) (HS.cell (i := 4) (j := 2) rfl rfl)) ?_
  refine ql (.bool false) (by kernel_rfl) (by kernel_rfl) ?_
  refine ql (.bool false) (by kernel_rfl) (by kernel_rfl) ?_
  refine ql (.pointer (some ⟨g10, 1, none⟩)) (by kernel_rfl) (by kernel_rfl) ?_
  refine ql (.slice A7 ((uni L M).length) c8) (by kernel_rfl) (R_load (p := ⟨g10, 1, none⟩) (by kernel_rfl) (by kernel_rfl) (by kernel_rfl) (HS.cell (i := 0) (j := 1) rfl rfl)) ?_
  refine ql (.int .i64 ((uni L M).length : Int)) (by kernel_rfl) (by kernel_rfl) ?_
  by_cases hc13 : ((uni L M).length : Int) > (8 : Int)
  · skip
    refine ql (.bool true) (by kernel_rfl) (R_bool (p := ((uni L M).length : Int) > (8 : Int)) (by kernel_rfl) (hc13)) ?_
    refine ql (.bool true) (by kernel_rfl) (by kernel_rfl) ?_
    refine ql (.agg #[.int .i64 n, .slice A7 ((uni L M).length) c8, .bool true]) (by kernel_rfl) (by kernel_rfl) ?_
    refine ql (.bool (newB L M)) (by kernel_rfl) (by kernel_rfl) ?_
    refine ks (v := .agg #[.int .i64 n, .slice A7 ((uni L M).length) c8, .bool true]) HS 3 rfl (0) [.int .i64 n, .slice A7 ((uni L M).length) c8, .bool true] (by kernel_rfl) (by kernel_rfl) (by kernel_rfl) (by kernel_rfl) (by kernel_rfl) (one_ (by kernel_rfl)) (Nat.le_of_ble_eq_true rfl) rfl ?_
    intro W14 H_
    replace HS : St W M_ W14 [blk g10 [.int .i64 n, .slice A7 ((uni L M).length) c8] 30, row A7 ((uni L M).length) c8 (ci .i64 (uni L M)) 3 1, row B M.length c2 (ci .i64 M) 3 1, blk g5 [.int .i64 n, .slice A7 ((uni L M).length) c8, .bool true] 32, blk g3 [.int .i64 m, .slice B M.length c2, .bool false] 32, blk g1 [.int .i64 n, .slice A L.length c, .bool false] 32] := H_
    clear H_
    refine ql (.bool (newB L M)) (by kernel_rfl) (by kernel_rfl) ?_
    refine wpList_nil ?_
    refine x_then ?_
    refine wp_ret ?_
    refine ret_ (.tuple #[.agg #[.int .i64 n, .slice A7 ((uni L M).length) c8, .bool true], .bool (newB L M)]) (res2 rfl (oneRes_agg (p := ⟨g5, 0, none⟩) [.int .i64 n, .slice A7 ((uni L M).length) c8, .bool true] (by kernel_rfl) (by kernel_rfl) (by kernel_rfl) (by kernel_rfl) (HS.cellsN (i := 3) rfl)) (oneRes_t (by kernel_rfl))) ?_
    replace HS : St W M_ W14 [row A7 ((uni L M).length) c8 (ci .i64 (uni L M)) 3 1, row B M.length c2 (ci .i64 M) 3 1] := St.tail (F := [blk g10 [.int .i64 n, .slice A7 ((uni L M).length) c8] 30, blk g5 [.int .i64 n, .slice A7 ((uni L M).length) c8, .bool true] 32, blk g3 [.int .i64 m, .slice B M.length c2, .bool false] 32, blk g1 [.int .i64 n, .slice A L.length c, .bool false] 32]) (HS.perm (perm_ [0, 3, 4, 5, 1, 2] (by kernel_rfl) rfl))
    have hbv : (false || false || decide (8 < (uni L M).length)) = true := by first | rfl | (simp only [Bool.true_or, Bool.false_or, Bool.or_false, Bool.or_true]; done) | (simp only [Bool.true_or, Bool.false_or, Bool.or_false, Bool.or_true]; exact decide_eq_true (by omega))
    exact ⟨_, _, by rw [hbv], HS⟩
  · skip
    refine ql (.bool false) (by kernel_rfl) (R_nbool (p := ((uni L M).length : Int) > (8 : Int)) (by kernel_rfl) (hc13)) ?_
    refine ql (.bool false) (by kernel_rfl) (by kernel_rfl) ?_
    refine ql (.agg #[.int .i64 n, .slice A7 ((uni L M).length) c8, .bool false]) (by kernel_rfl) (by kernel_rfl) ?_
    refine ql (.bool (newB L M)) (by kernel_rfl) (by kernel_rfl) ?_
    refine ks (v := .agg #[.int .i64 n, .slice A7 ((uni L M).length) c8, .bool false]) HS 3 rfl (0) [.int .i64 n, .slice A7 ((uni L M).length) c8, .bool false] (by kernel_rfl) (by kernel_rfl) (by kernel_rfl) (by kernel_rfl) (by kernel_rfl) (one_ (by kernel_rfl)) (Nat.le_of_ble_eq_true rfl) rfl ?_
    intro W15 H_
    replace HS : St W M_ W15 [blk g10 [.int .i64 n, .slice A7 ((uni L M).length) c8] 30, row A7 ((uni L M).length) c8 (ci .i64 (uni L M)) 3 1, row B M.length c2 (ci .i64 M) 3 1, blk g5 [.int .i64 n, .slice A7 ((uni L M).length) c8, .bool false] 32, blk g3 [.int .i64 m, .slice B M.length c2, .bool false] 32, blk g1 [.int .i64 n, .slice A L.length c, .bool false] 32] := H_
    clear H_
    refine ql (.bool (newB L M)) (by kernel_rfl) (by kernel_rfl) ?_
    refine wpList_nil ?_
    refine x_then ?_
    refine wp_ret ?_
    refine ret_ (.tuple #[.agg #[.int .i64 n, .slice A7 ((uni L M).length) c8, .bool false], .bool (newB L M)]) (res2 rfl (oneRes_agg (p := ⟨g5, 0, none⟩) [.int .i64 n, .slice A7 ((uni L M).length) c8, .bool false] (by kernel_rfl) (by kernel_rfl) (by kernel_rfl) (by kernel_rfl) (HS.cellsN (i := 3) rfl)) (oneRes_t (by kernel_rfl))) ?_
    replace HS : St W M_ W15 [row A7 ((uni L M).length) c8 (ci .i64 (uni L M)) 3 1, row B M.length c2 (ci .i64 M) 3 1] := St.tail (F := [blk g10 [.int .i64 n, .slice A7 ((uni L M).length) c8] 30, blk g5 [.int .i64 n, .slice A7 ((uni L M).length) c8, .bool false] 32, blk g3 [.int .i64 m, .slice B M.length c2, .bool false] 32, blk g1 [.int .i64 n, .slice A L.length c, .bool false] 32]) (HS.perm (perm_ [0, 3, 4, 5, 1, 2] (by kernel_rfl) rfl))
    have hbv : (false || false || decide (8 < (uni L M).length)) = false := by first | rfl | (simp only [Bool.true_or, Bool.false_or, Bool.or_false, Bool.or_true]; done) | (simp only [Bool.true_or, Bool.false_or, Bool.or_false, Bool.or_true]; exact decide_eq_false (by omega))
    exact ⟨_, _, by rw [hbv], HS⟩

theorem r5or (A : Option Addr) (c : Nat) (L : List Int) (n : Int) (b : Bool) (B : Option Addr) (c2 : Nat) (M : List Int) (m : Int) (b2 : Bool) (W : World) (M_ : Nat → Prop) (HS : St W M_ W [row A L.length c (ci .i64 L) 3 1, row B M.length c2 (ci .i64 M) 3 1]) (hl : L.length ≤ 40000) (hl2 : M.length ≤ 40000) (hsM : M.Pairwise (· < ·)) (hlM : ∀ x ∈ M, 0 ≤ x ∧ x < m) (hbL : b = (b || decide (8 < L.length))) : Calls Tryd.prog 27 #[.agg #[.int .i64 n, .slice A L.length c, .bool b], .agg #[.int .i64 m, .slice B M.length c2, .bool b2]] W fun e W' => ∃ A' c', e = .returned (.tuple #[.agg #[.int .i64 n, .slice A' (if n = m then uni L M else L).length c', .bool (b || (decide (n = m) && b2) || decide (8 < (if n = m then uni L M else L).length))], .bool (if n = m then newB L M else false)]) ∧ St W M_ W' [row A' ((if n = m then uni L M else L).length) c' (ci .i64 (if n = m then uni L M else L)) 3 1, row B M.length c2 (ci .i64 M) 3 1] := by
  by_cases hnm : n = m
  · simp only [if_pos hnm, decide_eq_true hnm, Bool.true_and]
    cases b <;> cases b2
    · exact r5or_eq_ff A c L n B c2 M m W M_ HS hl hl2 hnm hsM hlM
    · exact r5or_eq_ft A c L n B c2 M m W M_ HS hl hl2 hnm hsM hlM
    · exact r5or_eq_tf A c L n B c2 M m W M_ HS hl hl2 hnm hsM hlM
    · exact r5or_eq_tt A c L n B c2 M m W M_ HS hl hl2 hnm hsM hlM
  · simp only [if_neg hnm, decide_eq_false hnm, Bool.false_and, Bool.or_false]
    rw [← hbL]
    clear hbL
    cases b <;> cases b2
    · exact (r5or_ne_ff A c L n B c2 M m W M_ HS hnm).mono fun e W' h => ⟨A, c, h⟩
    · exact (r5or_ne_ft A c L n B c2 M m W M_ HS hnm).mono fun e W' h => ⟨A, c, h⟩
    · exact (r5or_ne_tf A c L n B c2 M m W M_ HS hnm).mono fun e W' h => ⟨A, c, h⟩
    · exact (r5or_ne_tt A c L n B c2 M m W M_ HS hnm).mono fun e W' h => ⟨A, c, h⟩

set_option maxRecDepth 100000 in
set_option maxHeartbeats 1000000 in
theorem r5words_true (A : Option Addr) (c : Nat) (L : List Int) (n : Int) (W : World) (h0 : 0 ≤ n) (hn : n ≤ 1048576) (hl : L.length ≤ 100000) : Calls Tryd.prog 30 #[.agg #[.int .i64 n, .slice A L.length c, .bool true]] W fun e W' => e = .returned (.int .i64 ((n + 63) / 64)) ∧ St W (owns []) W' [] := by
  have HS : St W (owns []) W [] := St.start W _
  refine calls_enter [.agg #[.int .i64 n, .slice A L.length c, .bool true], undef, undef, undef, undef, undef, undef, undef, undef, undef, undef, undef, undef, undef] Tryd.func30 rfl (by kernel_rfl) ?_
  refine wp_seq ?_
  refine wp_region_lit ?_
  refine kb HS [.int .i64 n, .slice A L.length c, .bool true] 32 (fun g => .pointer (some ⟨g, 0, none⟩)) (by kernel_rfl) (by kernel_rfl) ?_
  intro g1 W2 H_
  replace HS : St W (owns []) W2 [blk g1 [.int .i64 n, .slice A L.length c, .bool true] 32] := H_
  clear H_
  refine ql (.int .i64 0) (by kernel_rfl) (by kernel_rfl) ?_
  refine wpList_nil ?_
  refine x_then ?_
  refine wp_seq ?_
  refine wp_seq ?_
  refine wp_region_lit ?_
  refine ql (.pointer (some ⟨g1, 2, none⟩)) (by kernel_rfl) (by kernel_rfl) ?_
  refine ql (.bool true) (by kernel_rfl) (R_load (p := ⟨g1, 2, none⟩) (by kernel_rfl) (by kernel_rfl) (by kernel_rfl) (HS.cell (i := 0) (j := 2) rfl rfl)) ?_
  refine wpList_nil ?_
  refine x_then ?_
  refine wp_cond_true (by kernel_rfl) ?_
  refine wp_seq ?_
  refine wp_region_lit ?_
  refine ql (.pointer (some ⟨g1, 0, none⟩)) (by kernel_rfl) (by kernel_rfl) ?_
  refine ql (.pointer (some ⟨g1, 0, none⟩)) (by kernel_rfl) (by kernel_rfl) ?_
  refine ql (.int .i64 n) (by kernel_rfl) (R_load (p := ⟨g1, 0, none⟩) (by kernel_rfl) (by kernel_rfl) (by kernel_rfl) (HS.cell (i := 0) (j := 0) rfl rfl)) ?_
  refine ql (.int .i64 (n + 63)) (by kernel_rfl) (R_int (by kernel_rfl) (w64 (by omega))) ?_
  refine ql (.int .i64 ((n + 63) / 64)) (by kernel_rfl) (R_quo (by kernel_rfl) (by kernel_rfl) (by omega) (by omega) (by decide)) ?_
  refine ql (.int .i64 ((n + 63) / 64)) (by kernel_rfl) (by kernel_rfl) ?_
  refine wpList_nil ?_
  refine x_then ?_
  refine wp_ret ?_
  refine x_thenR ?_
  refine ret_ (.int .i64 ((n + 63) / 64)) (by kernel_rfl) ?_
  replace HS := HS.drop1
  exact ⟨by first | rfl | (congr 1; congr 1; omega), HS⟩

set_option maxRecDepth 100000 in
set_option maxHeartbeats 1000000 in
theorem r5words_false (A : Option Addr) (c : Nat) (L : List Int) (n : Int) (W : World) (h0 : 0 ≤ n) (hn : n ≤ 1048576) (hl : L.length ≤ 100000) : Calls Tryd.prog 30 #[.agg #[.int .i64 n, .slice A L.length c, .bool false]] W fun e W' => e = .returned (.int .i64 ((L.length : Int))) ∧ St W (owns []) W' [] := by
  have HS : St W (owns []) W [] := St.start W _
  refine calls_enter [.agg #[.int .i64 n, .slice A L.length c, .bool false], undef, undef, undef, undef, undef, undef, undef, undef, undef, undef, undef, undef, undef] Tryd.func30 rfl (by kernel_rfl) ?_
  refine wp_seq ?_
  refine wp_region_lit ?_
  refine kb HS [.int .i64 n, .slice A L.length c, .bool false] 32 (fun g => .pointer (some ⟨g, 0, none⟩)) (by kernel_rfl) (by kernel_rfl) ?_
  intro g1 W2 H_
  replace HS : St W (owns []) W2 [blk g1 [.int .i64 n, .slice A L.length c, .bool false] 32] := H_
  clear H_
  refine ql (.int .i64 0) (by kernel_rfl) (by kernel_rfl) ?_
  refine wpList_nil ?_
  refine x_then ?_
  refine wp_seq ?_
  refine wp_seq ?_
  refine wp_region_lit ?_
  refine ql (.pointer (some ⟨g1, 2, none⟩)) (by kernel_rfl) (by kernel_rfl) ?_
  refine ql (.bool false) (by kernel_rfl) (R_load (p := ⟨g1, 2, none⟩) (by kernel_rfl) (by kernel_rfl) (by kernel_rfl) (HS.cell (i := 0) (j := 2) rfl rfl)) ?_
  refine wpList_nil ?_
  refine x_then ?_
  refine wp_cond_false (by kernel_rfl) ?_
  refine wp_skip ?_
  refine x_then ?_
  refine wp_seq ?_
  refine wp_region_lit ?_
  refine ql (.pointer (some ⟨g1, 0, none⟩)) (by kernel_rfl) (by kernel_rfl) ?_
  refine ql (.pointer (some ⟨g1, 1, none⟩)) (by kernel_rfl) (by kernel_rfl) ?_
  refine ql (.slice A L.length c) (by kernel_rfl) (R_load (p := ⟨g1, 1, none⟩) (by kernel_rfl) (by kernel_rfl) (by kernel_rfl) (HS.cell (i := 0) (j := 1) rfl rfl)) ?_
  refine ql (.int .i64 (L.length : Int)) (by kernel_rfl) (by kernel_rfl) ?_
  refine ql (.int .i64 (L.length : Int)) (by kernel_rfl) (by kernel_rfl) ?_
  refine wpList_nil ?_
  refine x_then ?_
  refine wp_ret ?_
  refine ret_ (.int .i64 (L.length : Int)) (by kernel_rfl) ?_
  replace HS := HS.drop1
  exact ⟨by first | rfl | (congr 1; congr 1; omega), HS⟩

set_option maxRecDepth 100000 in
set_option maxHeartbeats 1000000 in
theorem r5fill (A : Option Addr) (c : Nat) (L : List Int) (n : Int) (b : Bool) (a t : Int) (W : World) (M_ : Nat → Prop) (HS : St W M_ W [row A L.length c (ci .i64 L) 3 1]) (hsL : L.Pairwise (· < ·)) (hlL : ∀ x ∈ L, 0 ≤ x ∧ x < n) (hbL : b = (b || decide (8 < L.length))) (h0 : 0 ≤ n) (hn : n ≤ 40000) : Calls Tryd.prog 28 #[.agg #[.int .i64 n, .slice A L.length c, .bool b], .int .i64 a, .int .i64 t] W fun e W' => ∃ A' c', e = .returned (.agg #[.int .i64 n, .slice A' (filL n L a t).length c', .bool (b || decide (8 < (filL n L a t).length))]) ∧ St W M_ W' [row A' ((filL n L a t).length) c' (ci .i64 (filL n L a t)) 3 1] := by
  refine calls_enter [.agg #[.int .i64 n, .slice A L.length c, .bool b], .int .i64 a, .int .i64 t, undef, undef, undef, undef, undef, undef, undef, undef, undef, undef, undef, undef, undef, undef, undef, undef, undef, undef, undef, undef, undef, undef, undef, undef, undef, undef, undef, undef, undef, undef] Tryd.func28 rfl (by kernel_rfl) ?_
  refine wp_seq ?_
  refine wp_region_lit ?_
  refine kb HS [.int .i64 n, .slice A L.length c, .bool b] 32 (fun g => .pointer (some ⟨g, 0, none⟩)) (by kernel_rfl) (by kernel_rfl) ?_
  intro g1 W2 H_
  replace HS : St W M_ W2 [blk g1 [.int .i64 n, .slice A L.length c, .bool b] 32, row A L.length c (ci .i64 L) 3 1] := H_
  clear H_
  refine kb HS [.int .i64 0, .slice none 0 0, .bool false] 32 (fun g => .pointer (some ⟨g, 0, none⟩)) (by kernel_rfl) (by kernel_rfl) ?_
  intro g3 W4 H_
  replace HS : St W M_ W4 [blk g3 [.int .i64 0, .slice none 0 0, .bool false] 32, blk g1 [.int .i64 n, .slice A L.length c, .bool b] 32, row A L.length c (ci .i64 L) 3 1] := H_
  clear H_
  refine wpList_nil ?_
  refine x_then ?_
  refine wp_seq ?_
  refine wp_seq ?_
  refine wp_region_lit ?_
  refine ql (.int .i64 0) (by kernel_rfl) (by kernel_rfl) ?_
  refine wpList_nil ?_
  refine x_then ?_
  refine wp_block ?_
  replace HS : St W M_ W4 [blk g1 [.int .i64 n, .slice A L.length c, .bool b] 32, blk g3 [.int .i64 0, .slice none 0 0, .bool false] 32, row A L.length c (ci .i64 L) 3 1] := HS.perm (perm_ [1, 0, 2] (by kernel_rfl) rfl)
  refine wp_loop_ghost (fun kq a' w' => ∃ (J5 : Nat → Value) (i : Int) (L1 : List Int) (b1 : Bool) (A6 : Option Addr) (c6 : Nat) , a' = Fr [.agg #[.int .i64 n, .slice A L.length c, .bool b], .int .i64 a, .int .i64 t, .pointer (some ⟨g1, 0, none⟩), undef, undef, .pointer (some ⟨g3, 0, none⟩), .int .i64 i, (J5 8), (J5 9), (J5 10), (J5 11), (J5 12), (J5 13), (J5 14), (J5 15), (J5 16), (J5 17), (J5 18), (J5 19), (J5 20), (J5 21), (J5 22), (J5 23), (J5 24), (J5 25), (J5 26), (J5 27), (J5 28), (J5 29), (J5 30), (J5 31), undef] ∧ kq = ((n - i).toNat) ∧ (0 ≤ i) ∧ (i ≤ n) ∧ (FlQ n a t L L1 i) ∧ (b1 = (b || decide (8 < L1.length))) ∧ St W M_ w' [blk g1 [.int .i64 n, .slice A6 L1.length c6, .bool b1] 32, blk g3 [.int .i64 0, .slice none 0 0, .bool false] 32, row A6 L1.length c6 (ci .i64 L1) 3 1]) ((n - (0 : Int)).toNat) ⟨(fun k_ : Nat => List.getD [.agg #[.int .i64 n, .slice A L.length c, .bool b], .int .i64 a, .int .i64 t, .pointer (some ⟨g1, 0, none⟩), undef, undef, .pointer (some ⟨g3, 0, none⟩), .int .i64 0, undef, undef, undef, undef, undef, undef, undef, undef, undef, undef, undef, undef, undef, undef, undef, undef, undef, undef, undef, undef, undef, undef, undef, undef, undef] k_ undef), (0 : Int), L, b, A, c, congrArg Fr (by kernel_rfl), rfl, by omega, by omega, flQ_start hsL hlL, hbL, HS⟩ ?_
  clear HS
  intro kq6 a' W7 hrel
  obtain ⟨J5, i, L1, b1, A6, c6, rfl, hk, i0, i1, hF, hb, HS⟩ := hrel
  have hll := inr_len hF.1 hF.2.1 h0
  refine wp_seq ?_
  refine wp_seq ?_
  refine wp_region_lit ?_
  refine ql (.int .i64 i) (by kernel_rfl) (by kernel_rfl) ?_
  refine ql (.pointer (some ⟨g1, 0, none⟩)) (by kernel_rfl) (by kernel_rfl) ?_
  refine ql (.pointer (some ⟨g1, 0, none⟩)) (by kernel_rfl) (by kernel_rfl) ?_
  refine ql (.int .i64 n) (by kernel_rfl) (R_load (p := ⟨g1, 0, none⟩) (by kernel_rfl) (by kernel_rfl) (by kernel_rfl) (HS.cell (i := 0) (j := 0) rfl rfl)) ?_
  by_cases hc8 : i < n
  · skip
    refine ql (.bool true) (by kernel_rfl) (R_bool (p := i < n) (by kernel_rfl) (hc8)) ?_
    refine wpList_nil ?_
    refine x_then ?_
    refine wp_cond_true (by kernel_rfl) ?_
    refine wp_skip ?_
    refine x_then ?_
    refine wp_seq ?_
    refine wp_block ?_
    refine wp_seq ?_
    refine wp_region_lit ?_
    refine ql (.int .i64 i) (by kernel_rfl) (by kernel_rfl) ?_
    refine ql (.int .i64 a) (by kernel_rfl) (by kernel_rfl) ?_
    by_cases hc9 : i ≥ a
    · skip
      refine ql (.bool true) (by kernel_rfl) (R_bool (p := i ≥ a) (by kernel_rfl) (hc9)) ?_
      refine ql (.bool true) (by kernel_rfl) (by kernel_rfl) ?_
      refine ql (.int .i64 i) (by kernel_rfl) (by kernel_rfl) ?_
      refine ql (.int .i64 t) (by kernel_rfl) (by kernel_rfl) ?_
      by_cases hc10 : i < t
      · skip
        refine ql (.bool true) (by kernel_rfl) (R_bool (p := i < t) (by kernel_rfl) (hc10)) ?_
        refine ql (.bool true) (by kernel_rfl) (by kernel_rfl) ?_
        refine wpList_nil ?_
        refine x_then ?_
        refine wp_cond_true (by kernel_rfl) ?_
        refine wp_seq ?_
        refine wp_region_lit ?_
        refine ql (.agg #[.int .i64 n, .slice A6 L1.length c6, .bool b1]) (by kernel_rfl) (R_loadN (p := ⟨g1, 0, none⟩) [.int .i64 n, .slice A6 L1.length c6, .bool b1] (by kernel_rfl) (by kernel_rfl) (by kernel_rfl) (by kernel_rfl) (three_at (HS.cell (i := 0) (j := 0) rfl rfl) (HS.cell (i := 0) (j := 1) rfl rfl) (HS.cell (i := 0) (j := 2) rfl rfl))) ?_
        refine ql (.int .i64 i) (by kernel_rfl) (by kernel_rfl) ?_
        refine qc (f := 26) (args := #[.agg #[.int .i64 n, .slice A6 L1.length c6, .bool b1], .int .i64 i]) (by kernel_rfl) (R_call #[.agg #[.int .i64 n, .slice A6 L1.length c6, .bool b1], .int .i64 i] Tryd.func26 (by kernel_rfl) (by kernel_rfl) (by kernel_rfl)) ?_
        replace HS : St W M_ W7 [row A6 L1.length c6 (ci .i64 L1) 3 1, blk g1 [.int .i64 n, .slice A6 L1.length c6, .bool b1] 32, blk g3 [.int .i64 0, .slice none 0 0, .bool false] 32] := HS.perm (perm_ [2, 0, 1] (by kernel_rfl) rfl)
        refine (r5add A6 c6 L1 n b1 i _ _ (St.focus (F := [row A6 L1.length c6 (ci .i64 L1) 3 1]) HS) (by omega)).mono ?_
        rintro e W13 ⟨A11, c12, rfl, H_⟩
        refine ⟨_, rfl, ?_⟩
        replace HS : St W M_ W13 [row A11 ((addL n L1 i).length) c12 (ci .i64 (addL n L1 i)) 3 1, blk g1 [.int .i64 n, .slice A6 L1.length c6, .bool b1] 32, blk g3 [.int .i64 0, .slice none 0 0, .bool false] 32] := HS.join (F := [row A6 L1.length c6 (ci .i64 L1) 3 1]) (G := [row A11 ((addL n L1 i).length) c12 (ci .i64 (addL n L1 i)) 3 1]) H_
        clear H_
        refine ql (.tuple #[.agg #[.int .i64 n, .slice A11 ((addL n L1 i).length) c12, .bool (b1 || decide (8 < (addL n L1 i).length))], .bool (addB n L1 i)]) (by kernel_rfl) (by kernel_rfl) ?_
        refine ql (.agg #[.int .i64 n, .slice A11 ((addL n L1 i).length) c12, .bool (b1 || decide (8 < (addL n L1 i).length))]) (by kernel_rfl) (by kernel_rfl) ?_
        refine ql (.bool (addB n L1 i)) (by kernel_rfl) (by kernel_rfl) ?_
        refine kb HS [.int .i64 0, .slice none 0 0, .bool false] 32 (fun g => .pointer (some ⟨g, 0, none⟩)) (by kernel_rfl) (by kernel_rfl) ?_
        intro g14 W15 H_
        replace HS : St W M_ W15 [blk g14 [.int .i64 0, .slice none 0 0, .bool false] 32, row A11 ((addL n L1 i).length) c12 (ci .i64 (addL n L1 i)) 3 1, blk g1 [.int .i64 n, .slice A6 L1.length c6, .bool b1] 32, blk g3 [.int .i64 0, .slice none 0 0, .bool false] 32] := H_
        clear H_
        refine ks (v := .agg #[.int .i64 n, .slice A11 ((addL n L1 i).length) c12, .bool (b1 || decide (8 < (addL n L1 i).length))]) HS 0 rfl (0) [.int .i64 n, .slice A11 ((addL n L1 i).length) c12, .bool (b1 || decide (8 < (addL n L1 i).length))] (by kernel_rfl) (by kernel_rfl) (by kernel_rfl) (by kernel_rfl) (by kernel_rfl) (one_ (by kernel_rfl)) (Nat.le_of_ble_eq_true rfl) rfl ?_
        intro W16 H_
        replace HS : St W M_ W16 [blk g14 [.int .i64 n, .slice A11 ((addL n L1 i).length) c12, .bool (b1 || decide (8 < (addL n L1 i).length))] 32, row A11 ((addL n L1 i).length) c12 (ci .i64 (addL n L1 i)) 3 1, blk g1 [.int .i64 n, .slice A6 L1.length c6, .bool b1] 32, blk g3 [.int .i64 0, .slice none 0 0, .bool false] 32] := H_
        clear H_
        refine ql (.bool (addB n L1 i)) (by kernel_rfl) (by kernel_rfl) ?_
        refine wpList_nil ?_
        refine x_then ?_
        refine wp_region_lit ?_
        refine ql (.agg #[.int .i64 n, .slice A11 ((addL n L1 i).length) c12, .bool (b1 || decide (8 < (addL n L1 i).length))]) (by kernel_rfl) (R_loadN (p := ⟨g14, 0, none⟩) [.int .i64 n, .slice A11 ((addL n L1 i).length) c12, .bool (b1 || decide (8 < (addL n L1 i).length))] (by kernel_rfl) (by kernel_rfl) (by kernel_rfl) (by kernel_rfl) (three_at (HS.cell (i := 0) (j := 0) rfl rfl) (HS.cell (i := 0) (j := 1) rfl rfl) (HS.cell (i := 0) (j := 2) rfl rfl))) ?_
        refine ks (v := .agg #[.int .i64 n, .slice A11 ((addL n L1 i).length) c12, .bool (b1 || decide (8 < (addL n L1 i).length))]) HS 2 rfl (0) [.int .i64 n, .slice A11 ((addL n L1 i).length) c12, .bool (b1 || decide (8 < (addL n L1 i).length))] (by kernel_rfl) (by kernel_rfl) (by kernel_rfl) (by kernel_rfl) (by kernel_rfl) (one_ (by kernel_rfl)) (Nat.le_of_ble_eq_true rfl) rfl ?_
        intro W17 H_
        replace HS : St W M_ W17 [blk g14 [.int .i64 n, .slice A11 ((addL n L1 i).length) c12, .bool (b1 || decide (8 < (addL n L1 i).length))] 32, row A11 ((addL n L1 i).length) c12 (ci .i64 (addL n L1 i)) 3 1, blk g1 [.int .i64 n, .slice A11 ((addL n L1 i).length) c12, .bool (b1 || decide (8 < (addL n L1 i).length))] 32, blk g3 [.int .i64 0, .slice none 0 0, .bool false] 32] := H_
        clear H_
        refine wpList_nil ?_
        refine x_inb ?_
        refine x_then ?_
        refine wp_region_lit ?_
        refine ql (.int .i64 i) (by kernel_rfl) (by kernel_rfl) ?_
        refine ql (.int .i64 (i + 1)) (by kernel_rfl) (R_int (by kernel_rfl) (w64 (by omega))) ?_
        refine ql (.int .i64 (i + 1)) (by kernel_rfl) (by kernel_rfl) ?_
        refine wpList_nil ?_
        replace HS : St W M_ W17 [blk g1 [.int .i64 n, .slice A11 ((addL n L1 i).length) c12, .bool (b1 || decide (8 < (addL n L1 i).length))] 32, blk g3 [.int .i64 0, .slice none 0 0, .bool false] 32, row A11 ((addL n L1 i).length) c12 (ci .i64 (addL n L1 i)) 3 1] := St.tail (F := [blk g14 [.int .i64 n, .slice A11 ((addL n L1 i).length) c12, .bool (b1 || decide (8 < (addL n L1 i).length))] 32]) (HS.perm (perm_ [0, 2, 3, 1] (by kernel_rfl) rfl))
        refine x_then ?_
        exact ⟨(n - (i + 1)).toNat, by omega, (fun k_ : Nat => List.getD [.agg #[.int .i64 n, .slice A L.length c, .bool b], .int .i64 a, .int .i64 t, .pointer (some ⟨g1, 0, none⟩), undef, undef, .pointer (some ⟨g3, 0, none⟩), .int .i64 (i + 1), .pointer (some ⟨g14, 0, none⟩), .bool (addB n L1 i), .int .i64 i, .pointer (some ⟨g1, 0, none⟩), .pointer (some ⟨g1, 0, none⟩), .int .i64 n, .bool true, .int .i64 i, .int .i64 (i + 1), .int .i64 i, .int .i64 a, .bool true, .bool true, .int .i64 i, .int .i64 t, .bool true, .bool true, .tuple #[.agg #[.int .i64 n, .slice A11 ((addL n L1 i).length) c12, .bool (b1 || decide (8 < (addL n L1 i).length))], .bool (addB n L1 i)], .agg #[.int .i64 n, .slice A6 L1.length c6, .bool b1], .int .i64 i, .tuple #[.agg #[.int .i64 n, .slice A11 ((addL n L1 i).length) c12, .bool (b1 || decide (8 < (addL n L1 i).length))], .bool (addB n L1 i)], .agg #[.int .i64 n, .slice A11 ((addL n L1 i).length) c12, .bool (b1 || decide (8 < (addL n L1 i).length))], .bool (addB n L1 i), .agg #[.int .i64 n, .slice A11 ((addL n L1 i).length) c12, .bool (b1 || decide (8 < (addL n L1 i).length))], undef] k_ undef), i + 1, (addL n L1 i), (b1 || decide (8 < (addL n L1 i).length)), A11, c12, congrArg Fr (by kernel_rfl), rfl, by omega, by omega, flQ_in hF i0 (by omega) (by omega) (by omega), b_step hb rfl (addL_ge n i L1), HS⟩
      · skip
        refine ql (.bool false) (by kernel_rfl) (R_nbool (p := i < t) (by kernel_rfl) (hc10)) ?_
        refine ql (.bool false) (by kernel_rfl) (by kernel_rfl) ?_
        refine wpList_nil ?_
        refine x_then ?_
        refine wp_cond_false (by kernel_rfl) ?_
        refine wp_skip ?_
        refine x_inb ?_
        refine x_then ?_
        refine wp_region_lit ?_
        refine ql (.int .i64 i) (by kernel_rfl) (by kernel_rfl) ?_
        refine ql (.int .i64 (i + 1)) (by kernel_rfl) (R_int (by kernel_rfl) (w64 (by omega))) ?_
        refine ql (.int .i64 (i + 1)) (by kernel_rfl) (by kernel_rfl) ?_
        refine wpList_nil ?_
        refine x_then ?_
        exact ⟨(n - (i + 1)).toNat, by omega, (fun k_ : Nat => List.getD [.agg #[.int .i64 n, .slice A L.length c, .bool b], .int .i64 a, .int .i64 t, .pointer (some ⟨g1, 0, none⟩), undef, undef, .pointer (some ⟨g3, 0, none⟩), .int .i64 (i + 1), (J5 8), (J5 9), .int .i64 i, .pointer (some ⟨g1, 0, none⟩), .pointer (some ⟨g1, 0, none⟩), .int .i64 n, .bool true, .int .i64 i, .int .i64 (i + 1), .int .i64 i, .int .i64 a, .bool true, .bool true, .int .i64 i, .int .i64 t, .bool false, .bool false, (J5 25), (J5 26), (J5 27), (J5 28), (J5 29), (J5 30), (J5 31), undef] k_ undef), i + 1, L1, b1, A6, c6, congrArg Fr (by kernel_rfl), rfl, by omega, by omega, flQ_out hF (by omega), hb, HS⟩
    · skip
      refine ql (.bool false) (by kernel_rfl) (R_nbool (p := i ≥ a) (by kernel_rfl) (hc9)) ?_
      refine ql (.bool false) (by kernel_rfl) (by kernel_rfl) ?_
      refine qln (by kernel_rfl) ?_
      refine qln (by kernel_rfl) ?_
      refine qln (by kernel_rfl) ?_
      refine ql (.bool false) (by kernel_rfl) (by kernel_rfl) ?_
      refine wpList_nil ?_
      refine x_then ?_
      refine wp_cond_false (by kernel_rfl) ?_
      refine wp_skip ?_
      refine x_inb ?_
      refine x_then ?_
      refine wp_region_lit ?_
      refine ql (.int .i64 i) (by kernel_rfl) (by kernel_rfl) ?_
      refine ql (.int .i64 (i + 1)) (by kernel_rfl) (R_int (by kernel_rfl) (w64 (by omega))) ?_
      refine ql (.int .i64 (i + 1)) (by kernel_rfl) (by kernel_rfl) ?_
      refine wpList_nil ?_
      refine x_then ?_
      exact ⟨(n - (i + 1)).toNat, by omega, (fun k_ : Nat => List.getD [.agg #[.int .i64 n, .slice A L.length c, .bool b], .int .i64 a, .int .i64 t, .pointer (some ⟨g1, 0, none⟩), undef, undef, .pointer (some ⟨g3, 0, none⟩), .int .i64 (i + 1), (J5 8), (J5 9), .int .i64 i, .pointer (some ⟨g1, 0, none⟩), .pointer (some ⟨g1, 0, none⟩), .int .i64 n, .bool true, .int .i64 i, .int .i64 (i + 1), .int .i64 i, .int .i64 a, .bool false, .bool false, undef, undef, undef, .bool false, (J5 25), (J5 26), (J5 27), (J5 28), (J5 29), (J5 30), (J5 31), undef] k_ undef), i + 1, L1, b1, A6, c6, congrArg Fr (by kernel_rfl), rfl, by omega, by omega, flQ_out hF (by omega), hb, HS⟩
  · skip
    refine ql (.bool false) (by kernel_rfl) (R_nbool (p := i < n) (by kernel_rfl) (hc8)) ?_
    refine wpList_nil ?_
    refine x_then ?_
    refine wp_cond_false (by kernel_rfl) ?_
    refine wp_exit ?_
    refine x_thenE ?_
    refine x_thenE ?_
    refine x_hit ?_
    refine x_then ?_
    refine wp_seq ?_
    refine wp_region_lit ?_
    refine ql (.agg #[.int .i64 n, .slice A6 L1.length c6, .bool b1]) (by kernel_rfl) (R_loadN (p := ⟨g1, 0, none⟩) [.int .i64 n, .slice A6 L1.length c6, .bool b1] (by kernel_rfl) (by kernel_rfl) (by kernel_rfl) (by kernel_rfl) (three_at (HS.cell (i := 0) (j := 0) rfl rfl) (HS.cell (i := 0) (j := 1) rfl rfl) (HS.cell (i := 0) (j := 2) rfl rfl))) ?_
    refine ks (v := .agg #[.int .i64 n, .slice A6 L1.length c6, .bool b1]) HS 1 rfl (0) [.int .i64 n, .slice A6 L1.length c6, .bool b1] (by kernel_rfl) (by kernel_rfl) (by kernel_rfl) (by kernel_rfl) (by kernel_rfl) (one_ (by kernel_rfl)) (Nat.le_of_ble_eq_true rfl) rfl ?_
    intro W18 H_
    replace HS : St W M_ W18 [blk g1 [.int .i64 n, .slice A6 L1.length c6, .bool b1] 32, blk g3 [.int .i64 n, .slice A6 L1.length c6, .bool b1] 32, row A6 L1.length c6 (ci .i64 L1) 3 1] := H_
    clear H_
    refine wpList_nil ?_
    refine x_then ?_
    refine wp_ret ?_
    refine ret_ (.agg #[.int .i64 n, .slice A6 L1.length c6, .bool b1]) (res1 rfl (oneRes_agg (p := ⟨g3, 0, none⟩) [.int .i64 n, .slice A6 L1.length c6, .bool b1] (by kernel_rfl) (by kernel_rfl) (by kernel_rfl) (by kernel_rfl) (HS.cellsN (i := 1) rfl))) ?_
    replace HS := HS.drop1
    replace HS := HS.drop1
    have hq := flQ_end hF hsL (by omega)
    subst hq
    subst hb
    exact ⟨_, _, rfl, HS⟩

end Go.Proofs.YtdiodmdohkjafaaDoor
