/- For every two sizes, list of acts and number, two sets of chapter 3 under the acts have the members that the document says: DensePlays returns true, and its arguments read as they did. This text: the walks through the functions that the statement reaches. No condition but those in the statement. -/
import Derived.WalkKit
import Derived.StillTailTactics
import Derived.Deep.LoopGhost
import Derived.KernelRfl
import Derived.Deep.OwnRows
import Derived.Laws.OwnMore
import Derived.Laws.MakeOwn
import Derived.Maps.AppendAt
import Derived.OrdersHeld
import Derived.Test.YtphhialimmhopaaDoorProg
import Derived.Test.YtphhialimmhopaaDoorHa
import Derived.Test.YtphhialimmhopaaDoorHb
namespace Go.Proofs.YtphhialimmhopaaDoor
open Go Go.RowKit Go.Shelf Go.Proofs.YtphhialimmhopaaDoor.Hp
attribute [local irreducible] wpStill wpList Code.wp TA
set_option linter.unusedVariables false
set_option linter.unusedSimpArgs false

set_option maxRecDepth 100000 in
set_option maxHeartbeats 1000000 in
theorem r3or_ne (A : Option Addr) (c : Nat) (L : List Int) (n : Int) (B : Option Addr) (c2 : Nat) (M : List Int) (m : Int) (W : World) (M_ : Nat → Prop) (HS : St W M_ W [row A L.length c (ci .i64 L) 3 1, row B M.length c2 (ci .i64 M) 3 1]) (hl : L.length ≤ 50000) (hl2 : M.length ≤ 50000) (hne : n ≠ m) : Calls Tryd.prog 31 #[.agg #[.int .i64 n, .slice A L.length c], .agg #[.int .i64 m, .slice B M.length c2]] W fun e W' => e = .returned (.tuple #[.agg #[.int .i64 n, .slice A L.length c], .bool false]) ∧ St W M_ W' [row A L.length c (ci .i64 L) 3 1, row B M.length c2 (ci .i64 M) 3 1] := by
  refine calls_enter [.agg #[.int .i64 n, .slice A L.length c], .agg #[.int .i64 m, .slice B M.length c2], undef, undef, undef, undef, undef, undef, undef, undef, undef, undef, undef, undef, undef, undef, undef, undef, undef, undef, undef, undef, undef, undef, undef, undef, undef, undef, undef, undef, undef, undef, undef, undef, undef, undef, undef, undef, undef, undef] Tryd.func31 rfl (by kernel_rfl) ?_
  refine wp_seq ?_
  refine wp_region_lit ?_
  refine kb HS [.int .i64 n, .slice A L.length c] 39 (fun g => .pointer (some ⟨g, 0, none⟩)) (by kernel_rfl) (by kernel_rfl) ?_
  intro g1 W2 H_
  replace HS : St W M_ W2 [blk g1 [.int .i64 n, .slice A L.length c] 39, row A L.length c (ci .i64 L) 3 1, row B M.length c2 (ci .i64 M) 3 1] := H_
  clear H_
  refine kb HS [.int .i64 m, .slice B M.length c2] 39 (fun g => .pointer (some ⟨g, 0, none⟩)) (by kernel_rfl) (by kernel_rfl) ?_
  intro g3 W4 H_
  replace HS : St W M_ W4 [blk g3 [.int .i64 m, .slice B M.length c2] 39, blk g1 [.int .i64 n, .slice A L.length c] 39, row A L.length c (ci .i64 L) 3 1, row B M.length c2 (ci .i64 M) 3 1] := H_
  clear H_
  refine kb HS [.int .i64 0, .slice none 0 0] 39 (fun g => .pointer (some ⟨g, 0, none⟩)) (by kernel_rfl) (by kernel_rfl) ?_
  intro g5 W6 H_
  replace HS : St W M_ W6 [blk g5 [.int .i64 0, .slice none 0 0] 39, blk g3 [.int .i64 m, .slice B M.length c2] 39, blk g1 [.int .i64 n, .slice A L.length c] 39, row A L.length c (ci .i64 L) 3 1, row B M.length c2 (ci .i64 M) 3 1] := H_
  clear H_
  refine ql (.bool false) (by kernel_rfl) (by kernel_rfl) ?_
  refine wpList_nil ?_
  refine x_then ?_
  refine wp_seq ?_
  refine wp_seq ?_
  refine wp_region_lit ?_
  refine ql (.pointer (some ⟨g1, 0, none⟩)) (by kernel_rfl) (by kernel_rfl) ?_
  refine ql (.int .i64 n) (by kernel_rfl) (R_load (p := ⟨g1, 0, none⟩) (by kernel_rfl) (by kernel_rfl) (by kernel_rfl) (HS.cell (i := 2) (j := 0) rfl rfl)) ?_
  refine ql (.pointer (some ⟨g3, 0, none⟩)) (by kernel_rfl) (by kernel_rfl) ?_
  refine ql (.int .i64 m) (by kernel_rfl) (R_load (p := ⟨g3, 0, none⟩) (by kernel_rfl) (by kernel_rfl) (by kernel_rfl) (HS.cell (i := 1) (j := 0) rfl rfl)) ?_
  refine ql (.bool true) (by kernel_rfl) (R_beq (b := (n != m)) (by kernel_rfl) (bne_t (by omega))) ?_
  refine wpList_nil ?_
  refine x_then ?_
  refine wp_cond_true (by kernel_rfl) ?_
  refine wp_seq ?_
  refine wp_region_lit ?_
  refine ql (.agg #[.int .i64 n, .slice A L.length c]) (by kernel_rfl) (R_loadN (p := ⟨g1, 0, none⟩) [.int .i64 n, .slice A L.length c] (by kernel_rfl) (by kernel_rfl) (by kernel_rfl) (by kernel_rfl) (two_at (HS.cell (i := 2) (j := 0) rfl rfl) (HS.cell (i := 2) (j := 1) rfl rfl))) ?_
  refine ks (v := .agg #[.int .i64 n, .slice A L.length c]) HS 0 rfl (0) [.int .i64 n, .slice A L.length c] (by kernel_rfl) (by kernel_rfl) (by kernel_rfl) (by kernel_rfl) (by kernel_rfl) (one_ (by kernel_rfl)) (Nat.le_of_ble_eq_true rfl) rfl ?_
  intro W7 H_
  replace HS : St W M_ W7 [blk g5 [.int .i64 n, .slice A L.length c] 39, blk g3 [.int .i64 m, .slice B M.length c2] 39, blk g1 [.int .i64 n, .slice A L.length c] 39, row A L.length c (ci .i64 L) 3 1, row B M.length c2 (ci .i64 M) 3 1] := H_
  clear H_
  refine ql (.bool false) (by kernel_rfl) (by kernel_rfl) ?_
  refine wpList_nil ?_
  refine x_then ?_
  refine wp_ret ?_
  refine x_thenR ?_
  refine ret_ (.tuple #[.agg #[.int .i64 n, .slice A L.length c], .bool false]) (res2 rfl (oneRes_agg (p := ⟨g5, 0, none⟩) [.int .i64 n, .slice A L.length c] (by kernel_rfl) (by kernel_rfl) (by kernel_rfl) (by kernel_rfl) (HS.cellsN (i := 0) rfl)) (oneRes_t (by kernel_rfl))) ?_
  replace HS := HS.drop1
  replace HS := HS.drop1
  replace HS := HS.drop1
  exact ⟨rfl, HS⟩

set_option maxRecDepth 100000 in
set_option maxHeartbeats 1000000 in
theorem r3or_eq (A : Option Addr) (c : Nat) (L : List Int) (n : Int) (B : Option Addr) (c2 : Nat) (M : List Int) (W : World) (M_ : Nat → Prop) (HS : St W M_ W [row A L.length c (ci .i64 L) 3 1, row B M.length c2 (ci .i64 M) 3 1]) (hl : L.length ≤ 50000) (hl2 : M.length ≤ 50000) (hsM : M.Pairwise (· < ·)) (hlM : ∀ x ∈ M, 0 ≤ x ∧ x < n) : Calls Tryd.prog 31 #[.agg #[.int .i64 n, .slice A L.length c], .agg #[.int .i64 n, .slice B M.length c2]] W fun e W' => ∃ A' c', e = .returned (.tuple #[.agg #[.int .i64 n, .slice A' (uni L M).length c'], .bool (newB L M)]) ∧ St W M_ W' [row A' ((uni L M).length) c' (ci .i64 (uni L M)) 3 1, row B M.length c2 (ci .i64 M) 3 1] := by
  refine calls_enter [.agg #[.int .i64 n, .slice A L.length c], .agg #[.int .i64 n, .slice B M.length c2], undef, undef, undef, undef, undef, undef, undef, undef, undef, undef, undef, undef, undef, undef, undef, undef, undef, undef, undef, undef, undef, undef, undef, undef, undef, undef, undef, undef, undef, undef, undef, undef, undef, undef, undef, undef, undef, undef] Tryd.func31 rfl (by kernel_rfl) ?_
  refine wp_seq ?_
  refine wp_region_lit ?_
  refine kb HS [.int .i64 n, .slice A L.length c] 39 (fun g => .pointer (some ⟨g, 0, none⟩)) (by kernel_rfl) (by kernel_rfl) ?_
  intro g1 W2 H_
  replace HS : St W M_ W2 [blk g1 [.int .i64 n, .slice A L.length c] 39, row A L.length c (ci .i64 L) 3 1, row B M.length c2 (ci .i64 M) 3 1] := H_
  clear H_
  refine kb HS [.int .i64 n, .slice B M.length c2] 39 (fun g => .pointer (some ⟨g, 0, none⟩)) (by kernel_rfl) (by kernel_rfl) ?_
  intro g3 W4 H_
  replace HS : St W M_ W4 [blk g3 [.int .i64 n, .slice B M.length c2] 39, blk g1 [.int .i64 n, .slice A L.length c] 39, row A L.length c (ci .i64 L) 3 1, row B M.length c2 (ci .i64 M) 3 1] := H_
  clear H_
  refine kb HS [.int .i64 0, .slice none 0 0] 39 (fun g => .pointer (some ⟨g, 0, none⟩)) (by kernel_rfl) (by kernel_rfl) ?_
  intro g5 W6 H_
  replace HS : St W M_ W6 [blk g5 [.int .i64 0, .slice none 0 0] 39, blk g3 [.int .i64 n, .slice B M.length c2] 39, blk g1 [.int .i64 n, .slice A L.length c] 39, row A L.length c (ci .i64 L) 3 1, row B M.length c2 (ci .i64 M) 3 1] := H_
  clear H_
  refine ql (.bool false) (by kernel_rfl) (by kernel_rfl) ?_
  refine wpList_nil ?_
  refine x_then ?_
  refine wp_seq ?_
  refine wp_seq ?_
  refine wp_region_lit ?_
  refine ql (.pointer (some ⟨g1, 0, none⟩)) (by kernel_rfl) (by kernel_rfl) ?_
  refine ql (.int .i64 n) (by kernel_rfl) (R_load (p := ⟨g1, 0, none⟩) (by kernel_rfl) (by kernel_rfl) (by kernel_rfl) (HS.cell (i := 2) (j := 0) rfl rfl)) ?_
  refine ql (.pointer (some ⟨g3, 0, none⟩)) (by kernel_rfl) (by kernel_rfl) ?_
  refine ql (.int .i64 n) (by kernel_rfl) (R_load (p := ⟨g3, 0, none⟩) (by kernel_rfl) (by kernel_rfl) (by kernel_rfl) (HS.cell (i := 1) (j := 0) rfl rfl)) ?_
  refine ql (.bool false) (by kernel_rfl) (R_beq (b := (n != n)) (by kernel_rfl) (bne_f (by omega))) ?_
  refine wpList_nil ?_
  refine x_then ?_
  refine wp_cond_false (by kernel_rfl) ?_
  refine wp_skip ?_
  refine x_then ?_
  refine wp_seq ?_
  refine wp_region_lit ?_
  refine ql (.bool false) (by kernel_rfl) (by kernel_rfl) ?_
  refine wpList_nil ?_
  refine x_then ?_
  refine wp_seq ?_
  refine wp_seq ?_
  refine wp_region_lit ?_
  refine ql (.int .i64 0) (by kernel_rfl) (by kernel_rfl) ?_
  refine wpList_nil ?_
  refine x_then ?_
  refine wp_block ?_
  refine wp_loop_ghost (fun kq a' w' => ∃ (J7 : Nat → Value) (k : Int) (ch : Bool) (cur : List Int) (A5 : Option Addr) (c5 : Nat) , a' = Fr [.agg #[.int .i64 n, .slice A L.length c], .agg #[.int .i64 n, .slice B M.length c2], .pointer (some ⟨g1, 0, none⟩), .pointer (some ⟨g3, 0, none⟩), .pointer (some ⟨g5, 0, none⟩), .bool false, .bool ch, .int .i64 k, (J7 8), (J7 9), .pointer (some ⟨g1, 0, none⟩), .int .i64 n, .pointer (some ⟨g3, 0, none⟩), .int .i64 n, .bool false, undef, (J7 16), (J7 17), (J7 18), (J7 19), (J7 20), (J7 21), (J7 22), (J7 23), (J7 24), (J7 25), (J7 26), (J7 27), (J7 28), (J7 29), (J7 30), (J7 31), (J7 32), (J7 33), (J7 34), (J7 35), (J7 36), (J7 37), undef, undef] ∧ kq = (M.length - (k).toNat) ∧ (0 ≤ k) ∧ (k ≤ M.length) ∧ (UniP L M cur ch k) ∧ St W M_ w' [blk g5 [.int .i64 0, .slice none 0 0] 39, blk g3 [.int .i64 n, .slice B M.length c2] 39, blk g1 [.int .i64 n, .slice A5 cur.length c5] 39, row A5 cur.length c5 (ci .i64 cur) 3 1, row B M.length c2 (ci .i64 M) 3 1]) (M.length - ((0 : Int)).toNat) ⟨(fun k_ : Nat => List.getD [.agg #[.int .i64 n, .slice A L.length c], .agg #[.int .i64 n, .slice B M.length c2], .pointer (some ⟨g1, 0, none⟩), .pointer (some ⟨g3, 0, none⟩), .pointer (some ⟨g5, 0, none⟩), .bool false, .bool false, .int .i64 0, undef, undef, .pointer (some ⟨g1, 0, none⟩), .int .i64 n, .pointer (some ⟨g3, 0, none⟩), .int .i64 n, .bool false, undef, undef, undef, undef, undef, undef, undef, undef, undef, undef, undef, undef, undef, undef, undef, undef, undef, undef, undef, undef, undef, undef, undef, undef, undef] k_ undef), (0 : Int), false, L, A, c, congrArg Fr (by kernel_rfl), rfl, by omega, by omega, uniP_start L M, HS⟩ ?_
  clear HS
  intro kq8 a' W9 hrel
  obtain ⟨J7, k, ch, cur, A5, c5, rfl, hk, k0, k1, hU, HS⟩ := hrel
  have hul := uniP_len hU
  refine wp_seq ?_
  refine wp_seq ?_
  refine wp_region_lit ?_
  refine ql (.int .i64 k) (by kernel_rfl) (by kernel_rfl) ?_
  refine ql (.pointer (some ⟨g3, 1, none⟩)) (by kernel_rfl) (by kernel_rfl) ?_
  refine ql (.slice B M.length c2) (by kernel_rfl) (R_load (p := ⟨g3, 1, none⟩) (by kernel_rfl) (by kernel_rfl) (by kernel_rfl) (HS.cell (i := 1) (j := 1) rfl rfl)) ?_
  refine ql (.int .i64 (M.length : Int)) (by kernel_rfl) (by kernel_rfl) ?_
  by_cases hc10 : k < (M.length : Int)
  · skip
    refine ql (.bool true) (by kernel_rfl) (R_bool (p := k < (M.length : Int)) (by kernel_rfl) (hc10)) ?_
    refine wpList_nil ?_
    refine x_then ?_
    refine wp_cond_true (by kernel_rfl) ?_
    refine wp_skip ?_
    refine x_then ?_
    refine wp_seq ?_
    refine wp_block ?_
    refine wp_seq ?_
    refine t_start HS (fun k_ => (row A5 cur.length c5 (ci .i64 cur) 3 1).own k_) 13 (by kernel_rfl) rfl ?_
    intro W11 H_ HD_
    clear HD_
    replace HS : St W M_ W11 [blk g5 [.int .i64 0, .slice none 0 0] 39, blk g3 [.int .i64 n, .slice B M.length c2] 39, blk g1 [.int .i64 n, .slice A5 cur.length c5] 39, row A5 cur.length c5 (ci .i64 cur) 3 1, row B M.length c2 (ci .i64 M) 3 1] := H_
    clear H_
    have HV := HS
    have HK := Kpt.refl (fun k_ => (row A5 cur.length c5 (ci .i64 cur) 3 1).own k_) W11
    refine t_q (n := 12) 0 (.agg #[.int .i64 n, .slice A5 cur.length c5]) rfl (by kernel_rfl) (by kernel_rfl) (fun _ _ _ h => h) (fun w' hk => (R_loadN (p := ⟨g1, 0, none⟩) [.int .i64 n, .slice A5 cur.length c5] (by kernel_rfl) (by kernel_rfl) (by kernel_rfl) (by kernel_rfl) (two_at (hk.cellN (HV.sepB (a := 2) (b := 3) (by decide) rfl rfl) (HV.cell (i := 2) (j := 0) rfl rfl)) (hk.cellN (HV.sepB (a := 2) (b := 3) (by decide) rfl rfl) (HV.cell (i := 2) (j := 1) rfl rfl))))) HK ?_
    refine t_q (n := 11) 1 (.pointer (some ⟨g3, 1, none⟩)) rfl (by kernel_rfl) (by kernel_rfl) (fun _ _ _ h => h) (fun w' hk => (by kernel_rfl)) HK ?_
    refine t_q (n := 10) 2 (.slice B M.length c2) rfl (by kernel_rfl) (by kernel_rfl) (fun _ _ _ h => h) (fun w' hk => (R_load (p := ⟨g3, 1, none⟩) (by kernel_rfl) (by kernel_rfl) (by kernel_rfl) (hk.cellN (HV.sepB (a := 1) (b := 3) (by decide) rfl rfl) (HV.cell (i := 1) (j := 1) rfl rfl)))) HK ?_
    refine t_q (n := 9) 3 (.int .i64 k) rfl (by kernel_rfl) (by kernel_rfl) (fun _ _ _ h => h) (fun w' hk => (by kernel_rfl)) HK ?_
    obtain ⟨g12, rfl⟩ := St.rsome HS (i := 4) rfl (by omega)
    refine t_q (n := 8) 4 (.pointer (some ⟨g12, k.toNat, none⟩)) rfl (by kernel_rfl) (by kernel_rfl) (fun _ _ _ h => h) (fun w' hk => (R_index1 (k := .i64) (g := g12) (n := M.length) (c := c2) (i := k) (by kernel_rfl) (by kernel_rfl) Tryd.underlying22 (by kernel_rfl) (by omega) (by omega))) HK ?_
    refine t_q (n := 7) 5 (.int .i64 (rdI M k)) rfl (by kernel_rfl) (by kernel_rfl) (fun _ _ _ h => h) (fun w' hk => (R_load (p := ⟨g12, k.toNat, none⟩) (by kernel_rfl) (by kernel_rfl) (by kernel_rfl) (hk.cellN (HV.sepR (a := 4) (b := 3) (by decide) rfl rfl) (HV.rcell (i := 4) rfl (ci_rd (i := k) (by omega) (by omega)))))) HK ?_
    refine t_pick2 (n := 6) 6 10 (by kernel_rfl) ?_ ?_
    · skip
      refine t_c2 (n := 6) 6 (f := 29) (args := #[.agg #[.int .i64 n, .slice A5 cur.length c5], .int .i64 (rdI M k)]) rfl (by kernel_rfl) (R_call #[.agg #[.int .i64 n, .slice A5 cur.length c5], .int .i64 (rdI M k)] Tryd.func29 (by kernel_rfl) (by kernel_rfl) (by kernel_rfl)) ?_
      replace HS : St W M_ W11 [row A5 cur.length c5 (ci .i64 cur) 3 1, blk g5 [.int .i64 0, .slice none 0 0] 39, blk g3 [.int .i64 n, .slice (some ⟨g12, 0, none⟩) M.length c2] 39, blk g1 [.int .i64 n, .slice A5 cur.length c5] 39, row (some ⟨g12, 0, none⟩) M.length c2 (ci .i64 M) 3 1] := HS.perm (perm_ [3, 0, 1, 2, 4] (by kernel_rfl) rfl)
      refine (r3add A5 c5 cur n (rdI M k) _ _ (St.focus (F := [row A5 cur.length c5 (ci .i64 cur) 3 1]) HS) (by omega)).mono ?_
      rintro e W15 ⟨A13, c14, rfl, H_⟩
      have hkf_ : ∀ k_, owns [row A5 cur.length c5 (ci .i64 cur) 3 1] k_ → (row A5 cur.length c5 (ci .i64 cur) 3 1).own k_ := by
        intro k_ h_; obtain ⟨e_, he_, ho_⟩ := h_; simp only [List.mem_cons, List.not_mem_nil, or_false] at he_; rcases he_ with rfl <;> first | exact ho_
      refine ⟨_, rfl, HK.trans H_.kept (fun _ h_ => .inl (hkf_ _ h_)), ?_⟩
      replace HK := HK.trans H_.kept (fun _ h_ => .inl (hkf_ _ h_))
      replace HS : St W M_ W15 [row A13 ((addL n cur (rdI M k)).length) c14 (ci .i64 (addL n cur (rdI M k))) 3 1, blk g5 [.int .i64 0, .slice none 0 0] 39, blk g3 [.int .i64 n, .slice (some ⟨g12, 0, none⟩) M.length c2] 39, blk g1 [.int .i64 n, .slice A5 cur.length c5] 39, row (some ⟨g12, 0, none⟩) M.length c2 (ci .i64 M) 3 1] := HS.join (F := [row A5 cur.length c5 (ci .i64 cur) 3 1]) (G := [row A13 ((addL n cur (rdI M k)).length) c14 (ci .i64 (addL n cur (rdI M k))) 3 1]) H_
      clear H_
      refine t_q (n := 5) 7 (.tuple #[.agg #[.int .i64 n, .slice A13 ((addL n cur (rdI M k)).length) c14], .bool (addB n cur (rdI M k))]) rfl (by kernel_rfl) (by kernel_rfl) (fun _ _ _ h => h) (fun w' hk => (by kernel_rfl)) HK ?_
      refine t_q (n := 4) 8 (.agg #[.int .i64 n, .slice A13 ((addL n cur (rdI M k)).length) c14]) rfl (by kernel_rfl) (by kernel_rfl) (fun _ _ _ h => h) (fun w' hk => (by kernel_rfl)) HK ?_
      refine t_q (n := 3) 9 (.bool (addB n cur (rdI M k))) rfl (by kernel_rfl) (by kernel_rfl) (fun _ _ _ h => h) (fun w' hk => (by kernel_rfl)) HK ?_
      obtain ⟨g16, W17, hg_, hw_, H_, hk_⟩ := ex_blk HS [.int .i64 0, .slice none 0 0] 39
      have hv_g16 := Nat.le_trans HK.size (Nat.le_of_eq (Eq.symm hg_))
      refine t_e (n := 2) 10 (.pointer (some ⟨g16, 0, none⟩)) rfl (by kernel_rfl) (by kernel_rfl) (by subst hg_; subst hw_; kernel_rfl) (HK.tr hk_) ?_
      replace HK := HK.tr hk_
      clear hk_
      clear hg_ hw_
      replace HS : St W M_ W17 [blk g16 [.int .i64 0, .slice none 0 0] 39, row A13 ((addL n cur (rdI M k)).length) c14 (ci .i64 (addL n cur (rdI M k))) 3 1, blk g5 [.int .i64 0, .slice none 0 0] 39, blk g3 [.int .i64 n, .slice (some ⟨g12, 0, none⟩) M.length c2] 39, blk g1 [.int .i64 n, .slice A5 cur.length c5] 39, row (some ⟨g12, 0, none⟩) M.length c2 (ci .i64 M) 3 1] := H_
      clear H_
      obtain ⟨W18, hrun_, H_, hk_⟩ := ex_ks (P := Tryd.prog) (ty := 0) (ps := "ref.go:58") (af := #[{ on := 10, ground := Go.Ground.data }, { on := 8, ground := Go.Ground.data }, { on := 6, ground := Go.Ground.chain }, { on := 0, ground := Go.Ground.phase }, { on := 1, ground := Go.Ground.phase }, { on := 2, ground := Go.Ground.phase }, { on := 3, ground := Go.Ground.phase }, { on := 4, ground := Go.Ground.phase }, { on := 5, ground := Go.Ground.phase }, { on := 6, ground := Go.Ground.phase }, { on := 7, ground := Go.Ground.phase }, { on := 8, ground := Go.Ground.phase }, { on := 9, ground := (Go.Ground.textOnly Go.Departure.lateStores) }, { on := 10, ground := Go.Ground.phase }]) (gd := none) (t := 39) (x := (Go.Operand.tmp 8)) (y := (Go.Operand.tmp 31)) (v := .agg #[.int .i64 n, .slice A13 ((addL n cur (rdI M k)).length) c14]) HS 0 rfl (0) [.int .i64 n, .slice A13 ((addL n cur (rdI M k)).length) c14] (by kernel_rfl) (by kernel_rfl) (by kernel_rfl) (by kernel_rfl) (one_ (by kernel_rfl)) (Nat.le_of_ble_eq_true rfl)
      replace HK := HK.trans hk_ (fun _ h_ => .inr (Nat.le_trans hv_g16 (Nat.le_of_eq (Eq.symm h_))))
      refine t_s (n := 1) 11 rfl (by kernel_rfl) (by kernel_rfl) hrun_ HK ?_
      clear hk_ hrun_
      replace HS : St W M_ W18 [blk g16 [.int .i64 n, .slice A13 ((addL n cur (rdI M k)).length) c14] 39, row A13 ((addL n cur (rdI M k)).length) c14 (ci .i64 (addL n cur (rdI M k))) 3 1, blk g5 [.int .i64 0, .slice none 0 0] 39, blk g3 [.int .i64 n, .slice (some ⟨g12, 0, none⟩) M.length c2] 39, blk g1 [.int .i64 n, .slice A5 cur.length c5] 39, row (some ⟨g12, 0, none⟩) M.length c2 (ci .i64 M) 3 1] := H_
      clear H_
      refine t_q (n := 0) 12 (.bool (addB n cur (rdI M k))) rfl (by kernel_rfl) (by kernel_rfl) (fun _ _ _ h => h) (fun w' hk => (by kernel_rfl)) HK ?_
      refine t_done (by kernel_rfl) ?_
      clear HV HK
      refine x_then ?_
      refine wp_seq ?_
      refine wp_region_lit ?_
      refine ql (.agg #[.int .i64 n, .slice A13 ((addL n cur (rdI M k)).length) c14]) (by kernel_rfl) (R_loadN (p := ⟨g16, 0, none⟩) [.int .i64 n, .slice A13 ((addL n cur (rdI M k)).length) c14] (by kernel_rfl) (by kernel_rfl) (by kernel_rfl) (by kernel_rfl) (two_at (HS.cell (i := 0) (j := 0) rfl rfl) (HS.cell (i := 0) (j := 1) rfl rfl))) ?_
      refine ks (v := .agg #[.int .i64 n, .slice A13 ((addL n cur (rdI M k)).length) c14]) HS 4 rfl (0) [.int .i64 n, .slice A13 ((addL n cur (rdI M k)).length) c14] (by kernel_rfl) (by kernel_rfl) (by kernel_rfl) (by kernel_rfl) (by kernel_rfl) (one_ (by kernel_rfl)) (Nat.le_of_ble_eq_true rfl) rfl ?_
      intro W19 H_
      replace HS : St W M_ W19 [blk g16 [.int .i64 n, .slice A13 ((addL n cur (rdI M k)).length) c14] 39, row A13 ((addL n cur (rdI M k)).length) c14 (ci .i64 (addL n cur (rdI M k))) 3 1, blk g5 [.int .i64 0, .slice none 0 0] 39, blk g3 [.int .i64 n, .slice (some ⟨g12, 0, none⟩) M.length c2] 39, blk g1 [.int .i64 n, .slice A13 ((addL n cur (rdI M k)).length) c14] 39, row (some ⟨g12, 0, none⟩) M.length c2 (ci .i64 M) 3 1] := H_
      clear H_
      refine wpList_nil ?_
      refine x_then ?_
      refine wp_region_lit ?_
      refine ql (.bool ch) (by kernel_rfl) (by kernel_rfl) ?_
      refine ql (.bool ch) (by kernel_rfl) (by kernel_rfl) ?_
      by_cases hb20 : ch = true
      · skip
        subst hb20
        refine qln (by kernel_rfl) ?_
        refine ql (.bool true) (by kernel_rfl) (by kernel_rfl) ?_
        refine ql (.bool true) (by kernel_rfl) (by kernel_rfl) ?_
        refine wpList_nil ?_
        refine x_inb ?_
        refine x_then ?_
        refine wp_region_lit ?_
        refine ql (.int .i64 k) (by kernel_rfl) (by kernel_rfl) ?_
        refine ql (.int .i64 (k + 1)) (by kernel_rfl) (R_int (by kernel_rfl) (w64 (by omega))) ?_
        refine ql (.int .i64 (k + 1)) (by kernel_rfl) (by kernel_rfl) ?_
        refine wpList_nil ?_
        replace HS : St W M_ W19 [blk g5 [.int .i64 0, .slice none 0 0] 39, blk g3 [.int .i64 n, .slice (some ⟨g12, 0, none⟩) M.length c2] 39, blk g1 [.int .i64 n, .slice A13 ((addL n cur (rdI M k)).length) c14] 39, row A13 ((addL n cur (rdI M k)).length) c14 (ci .i64 (addL n cur (rdI M k))) 3 1, row (some ⟨g12, 0, none⟩) M.length c2 (ci .i64 M) 3 1] := St.tail (F := [blk g16 [.int .i64 n, .slice A13 ((addL n cur (rdI M k)).length) c14] 39]) (HS.perm (perm_ [0, 2, 3, 4, 1, 5] (by kernel_rfl) rfl))
        refine x_then ?_
        exact ⟨M.length - (k + 1).toNat, by omega, (fun k_ : Nat => List.getD [.agg #[.int .i64 n, .slice A L.length c], .agg #[.int .i64 n, .slice (some ⟨g12, 0, none⟩) M.length c2], .pointer (some ⟨g1, 0, none⟩), .pointer (some ⟨g3, 0, none⟩), .pointer (some ⟨g5, 0, none⟩), .bool false, .bool true, .int .i64 (k + 1), .pointer (some ⟨g16, 0, none⟩), .bool (addB n cur (rdI M k)), .pointer (some ⟨g1, 0, none⟩), .int .i64 n, .pointer (some ⟨g3, 0, none⟩), .int .i64 n, .bool false, undef, .int .i64 k, .pointer (some ⟨g3, 1, none⟩), .slice (some ⟨g12, 0, none⟩) M.length c2, .int .i64 (M.length : Int), .bool true, .int .i64 k, .int .i64 (k + 1), .tuple #[.agg #[.int .i64 n, .slice A13 ((addL n cur (rdI M k)).length) c14], .bool (addB n cur (rdI M k))], .agg #[.int .i64 n, .slice A5 cur.length c5], .pointer (some ⟨g3, 1, none⟩), .slice (some ⟨g12, 0, none⟩) M.length c2, .int .i64 k, .pointer (some ⟨g12, k.toNat, none⟩), .int .i64 (rdI M k), .tuple #[.agg #[.int .i64 n, .slice A13 ((addL n cur (rdI M k)).length) c14], .bool (addB n cur (rdI M k))], .agg #[.int .i64 n, .slice A13 ((addL n cur (rdI M k)).length) c14], .bool (addB n cur (rdI M k)), .agg #[.int .i64 n, .slice A13 ((addL n cur (rdI M k)).length) c14], .bool true, .bool true, undef, .bool true, undef, undef] k_ undef), k + 1, true, (addL n cur (rdI M k)), A13, c14, congrArg Fr (by kernel_rfl), rfl, by omega, by omega, (by have h_ := uniP_step hU hsM hlM k0 (by omega); simpa using h_), HS⟩
      · skip
        replace hb20 := Bool.eq_false_iff.2 hb20
        subst hb20
        refine ql (.bool (addB n cur (rdI M k))) (by kernel_rfl) (by kernel_rfl) ?_
        refine ql (.bool (addB n cur (rdI M k))) (by kernel_rfl) (by kernel_rfl) ?_
        refine ql (.bool (addB n cur (rdI M k))) (by kernel_rfl) (by kernel_rfl) ?_
        refine wpList_nil ?_
        refine x_inb ?_
        refine x_then ?_
        refine wp_region_lit ?_
        refine ql (.int .i64 k) (by kernel_rfl) (by kernel_rfl) ?_
        refine ql (.int .i64 (k + 1)) (by kernel_rfl) (R_int (by kernel_rfl) (w64 (by omega))) ?_
        refine ql (.int .i64 (k + 1)) (by kernel_rfl) (by kernel_rfl) ?_
        refine wpList_nil ?_
        replace HS : St W M_ W19 [blk g5 [.int .i64 0, .slice none 0 0] 39, blk g3 [.int .i64 n, .slice (some ⟨g12, 0, none⟩) M.length c2] 39, blk g1 [.int .i64 n, .slice A13 ((addL n cur (rdI M k)).length) c14] 39, row A13 ((addL n cur (rdI M k)).length) c14 (ci .i64 (addL n cur (rdI M k))) 3 1, row (some ⟨g12, 0, none⟩) M.length c2 (ci .i64 M) 3 1] := St.tail (F := [blk g16 [.int .i64 n, .slice A13 ((addL n cur (rdI M k)).length) c14] 39]) (HS.perm (perm_ [0, 2, 3, 4, 1, 5] (by kernel_rfl) rfl))
        refine x_then ?_
        exact ⟨M.length - (k + 1).toNat, by omega, (fun k_ : Nat => List.getD [.agg #[.int .i64 n, .slice A L.length c], .agg #[.int .i64 n, .slice (some ⟨g12, 0, none⟩) M.length c2], .pointer (some ⟨g1, 0, none⟩), .pointer (some ⟨g3, 0, none⟩), .pointer (some ⟨g5, 0, none⟩), .bool false, .bool (addB n cur (rdI M k)), .int .i64 (k + 1), .pointer (some ⟨g16, 0, none⟩), .bool (addB n cur (rdI M k)), .pointer (some ⟨g1, 0, none⟩), .int .i64 n, .pointer (some ⟨g3, 0, none⟩), .int .i64 n, .bool false, undef, .int .i64 k, .pointer (some ⟨g3, 1, none⟩), .slice (some ⟨g12, 0, none⟩) M.length c2, .int .i64 (M.length : Int), .bool true, .int .i64 k, .int .i64 (k + 1), .tuple #[.agg #[.int .i64 n, .slice A13 ((addL n cur (rdI M k)).length) c14], .bool (addB n cur (rdI M k))], .agg #[.int .i64 n, .slice A5 cur.length c5], .pointer (some ⟨g3, 1, none⟩), .slice (some ⟨g12, 0, none⟩) M.length c2, .int .i64 k, .pointer (some ⟨g12, k.toNat, none⟩), .int .i64 (rdI M k), .tuple #[.agg #[.int .i64 n, .slice A13 ((addL n cur (rdI M k)).length) c14], .bool (addB n cur (rdI M k))], .agg #[.int .i64 n, .slice A13 ((addL n cur (rdI M k)).length) c14], .bool (addB n cur (rdI M k)), .agg #[.int .i64 n, .slice A13 ((addL n cur (rdI M k)).length) c14], .bool false, .bool false, .bool (addB n cur (rdI M k)), .bool (addB n cur (rdI M k)), undef, undef] k_ undef), k + 1, (addB n cur (rdI M k)), (addL n cur (rdI M k)), A13, c14, congrArg Fr (by kernel_rfl), rfl, by omega, by omega, (by have h_ := uniP_step hU hsM hlM k0 (by omega); simpa using h_), HS⟩
    · skip
      obtain ⟨g21, W22, hg_, hw_, H_, hk_⟩ := ex_blk HS [.int .i64 0, .slice none 0 0] 39
      have hv_g21 := Nat.le_trans HK.size (Nat.le_of_eq (Eq.symm hg_))
      refine t_e2 (n := 6) 10 (.pointer (some ⟨g21, 0, none⟩)) rfl (by kernel_rfl) (by subst hg_; subst hw_; kernel_rfl) (HK.tr hk_) ?_
      replace HK := HK.tr hk_
      clear hk_
      clear hg_ hw_
      replace HS : St W M_ W22 [blk g21 [.int .i64 0, .slice none 0 0] 39, blk g5 [.int .i64 0, .slice none 0 0] 39, blk g3 [.int .i64 n, .slice (some ⟨g12, 0, none⟩) M.length c2] 39, blk g1 [.int .i64 n, .slice A5 cur.length c5] 39, row A5 cur.length c5 (ci .i64 cur) 3 1, row (some ⟨g12, 0, none⟩) M.length c2 (ci .i64 M) 3 1] := H_
      clear H_
      refine t_c (n := 5) 6 (f := 29) (args := #[.agg #[.int .i64 n, .slice A5 cur.length c5], .int .i64 (rdI M k)]) rfl (by kernel_rfl) (by kernel_rfl) (R_call #[.agg #[.int .i64 n, .slice A5 cur.length c5], .int .i64 (rdI M k)] Tryd.func29 (by kernel_rfl) (by kernel_rfl) (by kernel_rfl)) ?_
      replace HS : St W M_ W22 [row A5 cur.length c5 (ci .i64 cur) 3 1, blk g21 [.int .i64 0, .slice none 0 0] 39, blk g5 [.int .i64 0, .slice none 0 0] 39, blk g3 [.int .i64 n, .slice (some ⟨g12, 0, none⟩) M.length c2] 39, blk g1 [.int .i64 n, .slice A5 cur.length c5] 39, row (some ⟨g12, 0, none⟩) M.length c2 (ci .i64 M) 3 1] := HS.perm (perm_ [4, 0, 1, 2, 3, 5] (by kernel_rfl) rfl)
      refine (r3add A5 c5 cur n (rdI M k) _ _ (St.focus (F := [row A5 cur.length c5 (ci .i64 cur) 3 1]) HS) (by omega)).mono ?_
      rintro e W25 ⟨A23, c24, rfl, H_⟩
      have hkf_ : ∀ k_, owns [row A5 cur.length c5 (ci .i64 cur) 3 1] k_ → (row A5 cur.length c5 (ci .i64 cur) 3 1).own k_ := by
        intro k_ h_; obtain ⟨e_, he_, ho_⟩ := h_; simp only [List.mem_cons, List.not_mem_nil, or_false] at he_; rcases he_ with rfl <;> first | exact ho_
      refine ⟨_, rfl, HK.trans H_.kept (fun _ h_ => .inl (hkf_ _ h_)), ?_⟩
      replace HK := HK.trans H_.kept (fun _ h_ => .inl (hkf_ _ h_))
      replace HS : St W M_ W25 [row A23 ((addL n cur (rdI M k)).length) c24 (ci .i64 (addL n cur (rdI M k))) 3 1, blk g21 [.int .i64 0, .slice none 0 0] 39, blk g5 [.int .i64 0, .slice none 0 0] 39, blk g3 [.int .i64 n, .slice (some ⟨g12, 0, none⟩) M.length c2] 39, blk g1 [.int .i64 n, .slice A5 cur.length c5] 39, row (some ⟨g12, 0, none⟩) M.length c2 (ci .i64 M) 3 1] := HS.join (F := [row A5 cur.length c5 (ci .i64 cur) 3 1]) (G := [row A23 ((addL n cur (rdI M k)).length) c24 (ci .i64 (addL n cur (rdI M k))) 3 1]) H_
      clear H_
      refine t_q (n := 4) 7 (.tuple #[.agg #[.int .i64 n, .slice A23 ((addL n cur (rdI M k)).length) c24], .bool (addB n cur (rdI M k))]) rfl (by kernel_rfl) (by kernel_rfl) (fun _ _ _ h => h) (fun w' hk => (by kernel_rfl)) HK ?_
      refine t_q (n := 3) 8 (.agg #[.int .i64 n, .slice A23 ((addL n cur (rdI M k)).length) c24]) rfl (by kernel_rfl) (by kernel_rfl) (fun _ _ _ h => h) (fun w' hk => (by kernel_rfl)) HK ?_
      refine t_q (n := 2) 9 (.bool (addB n cur (rdI M k))) rfl (by kernel_rfl) (by kernel_rfl) (fun _ _ _ h => h) (fun w' hk => (by kernel_rfl)) HK ?_
      obtain ⟨W26, hrun_, H_, hk_⟩ := ex_ks (P := Tryd.prog) (ty := 0) (ps := "ref.go:58") (af := #[{ on := 10, ground := Go.Ground.data }, { on := 8, ground := Go.Ground.data }, { on := 6, ground := Go.Ground.chain }, { on := 0, ground := Go.Ground.phase }, { on := 1, ground := Go.Ground.phase }, { on := 2, ground := Go.Ground.phase }, { on := 3, ground := Go.Ground.phase }, { on := 4, ground := Go.Ground.phase }, { on := 5, ground := Go.Ground.phase }, { on := 6, ground := Go.Ground.phase }, { on := 7, ground := Go.Ground.phase }, { on := 8, ground := Go.Ground.phase }, { on := 9, ground := (Go.Ground.textOnly Go.Departure.lateStores) }, { on := 10, ground := Go.Ground.phase }]) (gd := none) (t := 39) (x := (Go.Operand.tmp 8)) (y := (Go.Operand.tmp 31)) (v := .agg #[.int .i64 n, .slice A23 ((addL n cur (rdI M k)).length) c24]) HS 1 rfl (0) [.int .i64 n, .slice A23 ((addL n cur (rdI M k)).length) c24] (by kernel_rfl) (by kernel_rfl) (by kernel_rfl) (by kernel_rfl) (one_ (by kernel_rfl)) (Nat.le_of_ble_eq_true rfl)
      replace HK := HK.trans hk_ (fun _ h_ => .inr (Nat.le_trans hv_g21 (Nat.le_of_eq (Eq.symm h_))))
      refine t_s (n := 1) 11 rfl (by kernel_rfl) (by kernel_rfl) hrun_ HK ?_
      clear hk_ hrun_
      replace HS : St W M_ W26 [row A23 ((addL n cur (rdI M k)).length) c24 (ci .i64 (addL n cur (rdI M k))) 3 1, blk g21 [.int .i64 n, .slice A23 ((addL n cur (rdI M k)).length) c24] 39, blk g5 [.int .i64 0, .slice none 0 0] 39, blk g3 [.int .i64 n, .slice (some ⟨g12, 0, none⟩) M.length c2] 39, blk g1 [.int .i64 n, .slice A5 cur.length c5] 39, row (some ⟨g12, 0, none⟩) M.length c2 (ci .i64 M) 3 1] := H_
      clear H_
      refine t_q (n := 0) 12 (.bool (addB n cur (rdI M k))) rfl (by kernel_rfl) (by kernel_rfl) (fun _ _ _ h => h) (fun w' hk => (by kernel_rfl)) HK ?_
      refine t_done (by kernel_rfl) ?_
      clear HV HK
      refine x_then ?_
      refine wp_seq ?_
      refine wp_region_lit ?_
      refine ql (.agg #[.int .i64 n, .slice A23 ((addL n cur (rdI M k)).length) c24]) (by kernel_rfl) (R_loadN (p := ⟨g21, 0, none⟩) [.int .i64 n, .slice A23 ((addL n cur (rdI M k)).length) c24] (by kernel_rfl) (by kernel_rfl) (by kernel_rfl) (by kernel_rfl) (two_at (HS.cell (i := 1) (j := 0) rfl rfl) (HS.cell (i := 1) (j := 1) rfl rfl))) ?_
      refine ks (v := .agg #[.int .i64 n, .slice A23 ((addL n cur (rdI M k)).length) c24]) HS 4 rfl (0) [.int .i64 n, .slice A23 ((addL n cur (rdI M k)).length) c24] (by kernel_rfl) (by kernel_rfl) (by kernel_rfl) (by kernel_rfl) (by kernel_rfl) (one_ (by kernel_rfl)) (Nat.le_of_ble_eq_true rfl) rfl ?_
      intro W27 H_
      replace HS : St W M_ W27 [row A23 ((addL n cur (rdI M k)).length) c24 (ci .i64 (addL n cur (rdI M k))) 3 1, blk g21 [.int .i64 n, .slice A23 ((addL n cur (rdI M k)).length) c24] 39, blk g5 [.int .i64 0, .slice none 0 0] 39, blk g3 [.int .i64 n, .slice (some ⟨g12, 0, none⟩) M.length c2] 39, blk g1 [.int .i64 n, .slice A23 ((addL n cur (rdI M k)).length) c24] 39, row (some ⟨g12, 0, none⟩) M.length c2 (ci .i64 M) 3 1] := H_
      clear H_
      refine wpList_nil ?_
      refine x_then ?_
      refine wp_region_lit ?_
      refine ql (.bool ch) (by kernel_rfl) (by kernel_rfl) ?_
      refine ql (.bool ch) (by kernel_rfl) (by kernel_rfl) ?_
      by_cases hb28 : ch = true
      · skip
        subst hb28
        refine qln (by kernel_rfl) ?_
        refine ql (.bool true) (by kernel_rfl) (by kernel_rfl) ?_
        refine ql (.bool true) (by kernel_rfl) (by kernel_rfl) ?_
        refine wpList_nil ?_
        refine x_inb ?_
        refine x_then ?_
        refine wp_region_lit ?_
        refine ql (.int .i64 k) (by kernel_rfl) (by kernel_rfl) ?_
        refine ql (.int .i64 (k + 1)) (by kernel_rfl) (R_int (by kernel_rfl) (w64 (by omega))) ?_
        refine ql (.int .i64 (k + 1)) (by kernel_rfl) (by kernel_rfl) ?_
        refine wpList_nil ?_
        replace HS : St W M_ W27 [blk g5 [.int .i64 0, .slice none 0 0] 39, blk g3 [.int .i64 n, .slice (some ⟨g12, 0, none⟩) M.length c2] 39, blk g1 [.int .i64 n, .slice A23 ((addL n cur (rdI M k)).length) c24] 39, row A23 ((addL n cur (rdI M k)).length) c24 (ci .i64 (addL n cur (rdI M k))) 3 1, row (some ⟨g12, 0, none⟩) M.length c2 (ci .i64 M) 3 1] := St.tail (F := [blk g21 [.int .i64 n, .slice A23 ((addL n cur (rdI M k)).length) c24] 39]) (HS.perm (perm_ [1, 2, 3, 4, 0, 5] (by kernel_rfl) rfl))
        refine x_then ?_
        exact ⟨M.length - (k + 1).toNat, by omega, (fun k_ : Nat => List.getD [.agg #[.int .i64 n, .slice A L.length c], .agg #[.int .i64 n, .slice (some ⟨g12, 0, none⟩) M.length c2], .pointer (some ⟨g1, 0, none⟩), .pointer (some ⟨g3, 0, none⟩), .pointer (some ⟨g5, 0, none⟩), .bool false, .bool true, .int .i64 (k + 1), .pointer (some ⟨g21, 0, none⟩), .bool (addB n cur (rdI M k)), .pointer (some ⟨g1, 0, none⟩), .int .i64 n, .pointer (some ⟨g3, 0, none⟩), .int .i64 n, .bool false, undef, .int .i64 k, .pointer (some ⟨g3, 1, none⟩), .slice (some ⟨g12, 0, none⟩) M.length c2, .int .i64 (M.length : Int), .bool true, .int .i64 k, .int .i64 (k + 1), .tuple #[.agg #[.int .i64 n, .slice A23 ((addL n cur (rdI M k)).length) c24], .bool (addB n cur (rdI M k))], .agg #[.int .i64 n, .slice A5 cur.length c5], .pointer (some ⟨g3, 1, none⟩), .slice (some ⟨g12, 0, none⟩) M.length c2, .int .i64 k, .pointer (some ⟨g12, k.toNat, none⟩), .int .i64 (rdI M k), .tuple #[.agg #[.int .i64 n, .slice A23 ((addL n cur (rdI M k)).length) c24], .bool (addB n cur (rdI M k))], .agg #[.int .i64 n, .slice A23 ((addL n cur (rdI M k)).length) c24], .bool (addB n cur (rdI M k)), .agg #[.int .i64 n, .slice A23 ((addL n cur (rdI M k)).length) c24], .bool true, .bool true, undef, .bool true, undef, undef] k_ undef), k + 1, true, (addL n cur (rdI M k)), A23, c24, congrArg Fr (by kernel_rfl), rfl, by omega, by omega, (by have h_ := uniP_step hU hsM hlM k0 (by omega); simpa using h_), HS⟩
      · skip
        replace hb28 := Bool.eq_false_iff.2 hb28
        subst hb28
        refine ql (.bool (addB n cur (rdI M k))) (by kernel_rfl) (by kernel_rfl) ?_
        refine ql (.bool (addB n cur (rdI M k))) (by kernel_rfl) (by kernel_rfl) ?_
        refine ql (.bool (addB n cur (rdI M k))) (by kernel_rfl) (by kernel_rfl) ?_
        refine wpList_nil ?_
        refine x_inb ?_
        refine x_then ?_
        refine wp_region_lit ?_
        refine ql (.int .i64 k) (by kernel_rfl) (by kernel_rfl) ?_
        refine ql (.int .i64 (k + 1)) (by kernel_rfl) (R_int (by kernel_rfl) (w64 (by omega))) ?_
        refine ql (.int .i64 (k + 1)) (by kernel_rfl) (by kernel_rfl) ?_
        refine wpList_nil ?_
        replace HS : St W M_ W27 [blk g5 [.int .i64 0, .slice none 0 0] 39, blk g3 [.int .i64 n, .slice (some ⟨g12, 0, none⟩) M.length c2] 39, blk g1 [.int .i64 n, .slice A23 ((addL n cur (rdI M k)).length) c24] 39, row A23 ((addL n cur (rdI M k)).length) c24 (ci .i64 (addL n cur (rdI M k))) 3 1, row (some ⟨g12, 0, none⟩) M.length c2 (ci .i64 M) 3 1] := St.tail (F := [blk g21 [.int .i64 n, .slice A23 ((addL n cur (rdI M k)).length) c24] 39]) (HS.perm (perm_ [1, 2, 3, 4, 0, 5] (by kernel_rfl) rfl))
        refine x_then ?_
        exact ⟨M.length - (k + 1).toNat, by omega, (fun k_ : Nat => List.getD [.agg #[.int .i64 n, .slice A L.length c], .agg #[.int .i64 n, .slice (some ⟨g12, 0, none⟩) M.length c2], .pointer (some ⟨g1, 0, none⟩), .pointer (some ⟨g3, 0, none⟩), .pointer (some ⟨g5, 0, none⟩), .bool false, .bool (addB n cur (rdI M k)), .int .i64 (k + 1), .pointer (some ⟨g21, 0, none⟩), .bool (addB n cur (rdI M k)), .pointer (some ⟨g1, 0, none⟩), .int .i64 n, .pointer (some ⟨g3, 0, none⟩), .int .i64 n, .bool false, undef, .int .i64 k, .pointer (some ⟨g3, 1, none⟩), .slice (some ⟨g12, 0, none⟩) M.length c2, .int .i64 (M.length : Int), .bool true, .int .i64 k, .int .i64 (k + 1), .tuple #[.agg #[.int .i64 n, .slice A23 ((addL n cur (rdI M k)).length) c24], .bool (addB n cur (rdI M k))], .agg #[.int .i64 n, .slice A5 cur.length c5], .pointer (some ⟨g3, 1, none⟩), .slice (some ⟨g12, 0, none⟩) M.length c2, .int .i64 k, .pointer (some ⟨g12, k.toNat, none⟩), .int .i64 (rdI M k), .tuple #[.agg #[.int .i64 n, .slice A23 ((addL n cur (rdI M k)).length) c24], .bool (addB n cur (rdI M k))], .agg #[.int .i64 n, .slice A23 ((addL n cur (rdI M k)).length) c24], .bool (addB n cur (rdI M k)), .agg #[.int .i64 n, .slice A23 ((addL n cur (rdI M k)).length) c24], .bool false, .bool false, .bool (addB n cur (rdI M k)), .bool (addB n cur (rdI M k)), undef, undef] k_ undef), k + 1, (addB n cur (rdI M k)), (addL n cur (rdI M k)), A23, c24, congrArg Fr (by kernel_rfl), rfl, by omega, by omega, (by have h_ := uniP_step hU hsM hlM k0 (by omega); simpa using h_), HS⟩
  · skip
    refine ql (.bool false) (by kernel_rfl) (R_nbool (p := k < (M.length : Int)) (by kernel_rfl) (hc10)) ?_
    refine wpList_nil ?_
    refine x_then ?_
    refine wp_cond_false (by kernel_rfl) ?_
    refine wp_exit ?_
    refine x_thenE ?_
    refine x_thenE ?_
    refine x_hit ?_
    refine x_then ?_
    refine wp_seq ?_
    refine wp_region_lit ?_
    refine ql (.agg #[.int .i64 n, .slice A5 cur.length c5]) (by kernel_rfl) (R_loadN (p := ⟨g1, 0, none⟩) [.int .i64 n, .slice A5 cur.length c5] (by kernel_rfl) (by kernel_rfl) (by kernel_rfl) (by kernel_rfl) (two_at (HS.cell (i := 2) (j := 0) rfl rfl) (HS.cell (i := 2) (j := 1) rfl rfl))) ?_
    refine ql (.bool ch) (by kernel_rfl) (by kernel_rfl) ?_
    refine ks (v := .agg #[.int .i64 n, .slice A5 cur.length c5]) HS 0 rfl (0) [.int .i64 n, .slice A5 cur.length c5] (by kernel_rfl) (by kernel_rfl) (by kernel_rfl) (by kernel_rfl) (by kernel_rfl) (one_ (by kernel_rfl)) (Nat.le_of_ble_eq_true rfl) rfl ?_
    intro W29 H_
    replace HS : St W M_ W29 [blk g5 [.int .i64 n, .slice A5 cur.length c5] 39, blk g3 [.int .i64 n, .slice B M.length c2] 39, blk g1 [.int .i64 n, .slice A5 cur.length c5] 39, row A5 cur.length c5 (ci .i64 cur) 3 1, row B M.length c2 (ci .i64 M) 3 1] := H_
    clear H_
    refine ql (.bool ch) (by kernel_rfl) (by kernel_rfl) ?_
    refine wpList_nil ?_
    refine x_then ?_
    refine wp_ret ?_
    refine ret_ (.tuple #[.agg #[.int .i64 n, .slice A5 cur.length c5], .bool ch]) (res2 rfl (oneRes_agg (p := ⟨g5, 0, none⟩) [.int .i64 n, .slice A5 cur.length c5] (by kernel_rfl) (by kernel_rfl) (by kernel_rfl) (by kernel_rfl) (HS.cellsN (i := 0) rfl)) (oneRes_t (by kernel_rfl))) ?_
    replace HS := HS.drop1
    replace HS := HS.drop1
    replace HS := HS.drop1
    have hk9 : k = M.length := by omega
    obtain ⟨hq, hz⟩ := uniP_end hU hk9
    subst hq
    subst hz
    exact ⟨_, _, rfl, HS⟩

theorem r3or_e2 (A : Option Addr) (c : Nat) (L : List Int) (n : Int) (B : Option Addr) (c2 : Nat) (M : List Int) (m : Int) (W : World) (M_ : Nat → Prop) (HS : St W M_ W [row A L.length c (ci .i64 L) 3 1, row B M.length c2 (ci .i64 M) 3 1]) (hl : L.length ≤ 50000) (hl2 : M.length ≤ 50000) (hnm : n = m) (hsM : M.Pairwise (· < ·)) (hlM : ∀ x ∈ M, 0 ≤ x ∧ x < m) : Calls Tryd.prog 31 #[.agg #[.int .i64 n, .slice A L.length c], .agg #[.int .i64 m, .slice B M.length c2]] W fun e W' => ∃ A' c', e = .returned (.tuple #[.agg #[.int .i64 n, .slice A' (uni L M).length c'], .bool (newB L M)]) ∧ St W M_ W' [row A' ((uni L M).length) c' (ci .i64 (uni L M)) 3 1, row B M.length c2 (ci .i64 M) 3 1] := by
  subst hnm
  exact r3or_eq A c L n B c2 M W M_ HS hl hl2 hsM hlM

set_option maxRecDepth 100000 in
set_option maxHeartbeats 1000000 in
theorem r3do (A : Option Addr) (c : Nat) (L : List Int) (n : Int) (B : Option Addr) (c2 : Nat) (M : List Int) (m : Int) (kd i : Int) (W : World) (M_ : Nat → Prop) (HS : St W M_ W [row A L.length c (ci .i64 L) 3 1, row B M.length c2 (ci .i64 M) 3 1]) (hl : L.length ≤ 50000) (hl2 : M.length ≤ 50000) (hsL : L.Pairwise (· < ·)) (hlL : ∀ x ∈ L, 0 ≤ x ∧ x < n) (hsM : M.Pairwise (· < ·)) (hlM : ∀ x ∈ M, 0 ≤ x ∧ x < m) : Calls Tryd.prog 16 #[.agg #[.int .i64 n, .slice A L.length c], .agg #[.int .i64 m, .slice B M.length c2], .agg #[.int .i64 kd, .int .i64 i]] W fun e W' => ∃ A1 c1 A2 c3, e = .returned (.tuple #[.agg #[.int .i64 n, .slice A1 (sL n m kd i L M).length c1], .agg #[.int .i64 m, .slice A2 (sM n m kd i L M).length c3], .bool (sB n m kd i L M)]) ∧ St W M_ W' [row A1 ((sL n m kd i L M).length) c1 (ci .i64 (sL n m kd i L M)) 3 1, row A2 ((sM n m kd i L M).length) c3 (ci .i64 (sM n m kd i L M)) 3 1] := by
  refine calls_enter ((.agg #[.int .i64 n, .slice A L.length c]) :: (.agg #[.int .i64 m, .slice B M.length c2]) :: (.agg #[.int .i64 kd, .int .i64 i]) :: undef :: undef :: undef :: undef :: undef :: undef :: undef :: undef :: undef :: undef :: undef :: undef :: undef :: undef :: undef :: undef :: undef :: undef :: undef :: undef :: undef :: undef :: undef :: undef :: undef :: undef :: undef :: undef :: undef :: undef :: undef :: undef :: undef :: undef :: undef :: undef :: undef :: undef :: undef :: undef :: undef :: undef :: undef :: undef :: undef :: undef :: undef :: undef :: undef :: undef :: undef :: undef :: undef :: undef :: undef :: undef :: undef :: undef :: undef :: undef :: undef :: undef :: undef :: undef :: []) Tryd.func16 rfl (by kernel_rfl) ?_
  refine wp_seq ?_
  refine wp_region_lit ?_
  refine kb HS [.int .i64 n, .slice A L.length c] 39 (fun g => .pointer (some ⟨g, 0, none⟩)) (by kernel_rfl) (by kernel_rfl) ?_
  intro g1 W2 H_
  replace HS : St W M_ W2 [blk g1 [.int .i64 n, .slice A L.length c] 39, row A L.length c (ci .i64 L) 3 1, row B M.length c2 (ci .i64 M) 3 1] := H_
  clear H_
  refine kb HS [.int .i64 m, .slice B M.length c2] 39 (fun g => .pointer (some ⟨g, 0, none⟩)) (by kernel_rfl) (by kernel_rfl) ?_
  intro g3 W4 H_
  replace HS : St W M_ W4 [blk g3 [.int .i64 m, .slice B M.length c2] 39, blk g1 [.int .i64 n, .slice A L.length c] 39, row A L.length c (ci .i64 L) 3 1, row B M.length c2 (ci .i64 M) 3 1] := H_
  clear H_
  refine kb HS [.int .i64 kd, .int .i64 i] 43 (fun g => .pointer (some ⟨g, 0, none⟩)) (by kernel_rfl) (by kernel_rfl) ?_
  intro g5 W6 H_
  replace HS : St W M_ W6 [blk g5 [.int .i64 kd, .int .i64 i] 43, blk g3 [.int .i64 m, .slice B M.length c2] 39, blk g1 [.int .i64 n, .slice A L.length c] 39, row A L.length c (ci .i64 L) 3 1, row B M.length c2 (ci .i64 M) 3 1] := H_
  clear H_
  refine kb HS [.int .i64 0, .slice none 0 0] 39 (fun g => .pointer (some ⟨g, 0, none⟩)) (by kernel_rfl) (by kernel_rfl) ?_
  intro g7 W8 H_
  replace HS : St W M_ W8 [blk g7 [.int .i64 0, .slice none 0 0] 39, blk g5 [.int .i64 kd, .int .i64 i] 43, blk g3 [.int .i64 m, .slice B M.length c2] 39, blk g1 [.int .i64 n, .slice A L.length c] 39, row A L.length c (ci .i64 L) 3 1, row B M.length c2 (ci .i64 M) 3 1] := H_
  clear H_
  refine kb HS [.int .i64 0, .slice none 0 0] 39 (fun g => .pointer (some ⟨g, 0, none⟩)) (by kernel_rfl) (by kernel_rfl) ?_
  intro g9 W10 H_
  replace HS : St W M_ W10 [blk g9 [.int .i64 0, .slice none 0 0] 39, blk g7 [.int .i64 0, .slice none 0 0] 39, blk g5 [.int .i64 kd, .int .i64 i] 43, blk g3 [.int .i64 m, .slice B M.length c2] 39, blk g1 [.int .i64 n, .slice A L.length c] 39, row A L.length c (ci .i64 L) 3 1, row B M.length c2 (ci .i64 M) 3 1] := H_
  clear H_
  refine ql (.bool false) (by kernel_rfl) (by kernel_rfl) ?_
  refine wpList_nil ?_
  refine x_then ?_
  refine wp_seq ?_
  refine wp_region_lit ?_
  refine ql (.bool false) (by kernel_rfl) (by kernel_rfl) ?_
  refine wpList_nil ?_
  refine x_then ?_
  refine wp_seq ?_
  refine wp_seq ?_
  refine wp_region_lit ?_
  refine ql (.pointer (some ⟨g5, 0, none⟩)) (by kernel_rfl) (by kernel_rfl) ?_
  refine ql (.int .i64 kd) (by kernel_rfl) (R_load (p := ⟨g5, 0, none⟩) (by kernel_rfl) (by kernel_rfl) (by kernel_rfl) (HS.cell (i := 2) (j := 0) rfl rfl)) ?_
  refine wpList_nil ?_
  refine x_then ?_
  refine wp_block ?_
  refine wp_seq ?_
  refine wp_region_lit ?_
  by_cases hc11 : kd = (0 : Int)
  · skip
    refine ql (.bool true) (by kernel_rfl) (R_beq (b := (kd == (0 : Int))) (by kernel_rfl) (beq_t (hc11))) ?_
    refine ql (.bool true) (by kernel_rfl) (by kernel_rfl) ?_
    refine wpList_nil ?_
    refine x_then ?_
    refine wp_cond_true (by kernel_rfl) ?_
    refine wp_region_lit ?_
    refine ql (.agg #[.int .i64 n, .slice A L.length c]) (by kernel_rfl) (R_loadN (p := ⟨g1, 0, none⟩) [.int .i64 n, .slice A L.length c] (by kernel_rfl) (by kernel_rfl) (by kernel_rfl) (by kernel_rfl) (two_at (HS.cell (i := 4) (j := 0) rfl rfl) (HS.cell (i := 4) (j := 1) rfl rfl))) ?_
    refine ql (.pointer (some ⟨g5, 1, none⟩)) (by kernel_rfl) (by kernel_rfl) ?_
    refine ql (.int .i64 i) (by kernel_rfl) (R_load (p := ⟨g5, 1, none⟩) (by kernel_rfl) (by kernel_rfl) (by kernel_rfl) (HS.cell (i := 2) (j := 1) rfl rfl)) ?_
    refine qc (f := 29) (args := #[.agg #[.int .i64 n, .slice A L.length c], .int .i64 i]) (by kernel_rfl) (R_call #[.agg #[.int .i64 n, .slice A L.length c], .int .i64 i] Tryd.func29 (by kernel_rfl) (by kernel_rfl) (by kernel_rfl)) ?_
    replace HS : St W M_ W10 [row A L.length c (ci .i64 L) 3 1, blk g9 [.int .i64 0, .slice none 0 0] 39, blk g7 [.int .i64 0, .slice none 0 0] 39, blk g5 [.int .i64 kd, .int .i64 i] 43, blk g3 [.int .i64 m, .slice B M.length c2] 39, blk g1 [.int .i64 n, .slice A L.length c] 39, row B M.length c2 (ci .i64 M) 3 1] := HS.perm (perm_ [5, 0, 1, 2, 3, 4, 6] (by kernel_rfl) rfl)
    refine (r3add A c L n i _ _ (St.focus (F := [row A L.length c (ci .i64 L) 3 1]) HS) (by omega)).mono ?_
    rintro e W14 ⟨A12, c13, rfl, H_⟩
    refine ⟨_, rfl, ?_⟩
    replace HS : St W M_ W14 [row A12 ((addL n L i).length) c13 (ci .i64 (addL n L i)) 3 1, blk g9 [.int .i64 0, .slice none 0 0] 39, blk g7 [.int .i64 0, .slice none 0 0] 39, blk g5 [.int .i64 kd, .int .i64 i] 43, blk g3 [.int .i64 m, .slice B M.length c2] 39, blk g1 [.int .i64 n, .slice A L.length c] 39, row B M.length c2 (ci .i64 M) 3 1] := HS.join (F := [row A L.length c (ci .i64 L) 3 1]) (G := [row A12 ((addL n L i).length) c13 (ci .i64 (addL n L i)) 3 1]) H_
    clear H_
    refine ql (.tuple #[.agg #[.int .i64 n, .slice A12 ((addL n L i).length) c13], .bool (addB n L i)]) (by kernel_rfl) (by kernel_rfl) ?_
    refine ql (.agg #[.int .i64 n, .slice A12 ((addL n L i).length) c13]) (by kernel_rfl) (by kernel_rfl) ?_
    refine ql (.bool (addB n L i)) (by kernel_rfl) (by kernel_rfl) ?_
    refine ks (v := .agg #[.int .i64 n, .slice A12 ((addL n L i).length) c13]) HS 5 rfl (0) [.int .i64 n, .slice A12 ((addL n L i).length) c13] (by kernel_rfl) (by kernel_rfl) (by kernel_rfl) (by kernel_rfl) (by kernel_rfl) (one_ (by kernel_rfl)) (Nat.le_of_ble_eq_true rfl) rfl ?_
    intro W15 H_
    replace HS : St W M_ W15 [row A12 ((addL n L i).length) c13 (ci .i64 (addL n L i)) 3 1, blk g9 [.int .i64 0, .slice none 0 0] 39, blk g7 [.int .i64 0, .slice none 0 0] 39, blk g5 [.int .i64 kd, .int .i64 i] 43, blk g3 [.int .i64 m, .slice B M.length c2] 39, blk g1 [.int .i64 n, .slice A12 ((addL n L i).length) c13] 39, row B M.length c2 (ci .i64 M) 3 1] := H_
    clear H_
    refine ql (.bool (addB n L i)) (by kernel_rfl) (by kernel_rfl) ?_
    refine wpList_nil ?_
    refine x_inb ?_
    refine x_then ?_
    refine wp_seq ?_
    refine t_start HS (fun k_ => (blk g9 [.int .i64 0, .slice none 0 0] 39).own k_ ∨ (blk g7 [.int .i64 0, .slice none 0 0] 39).own k_) 6 (by kernel_rfl) rfl ?_
    intro W16 H_ HD_
    clear HD_
    replace HS : St W M_ W16 [row A12 ((addL n L i).length) c13 (ci .i64 (addL n L i)) 3 1, blk g9 [.int .i64 0, .slice none 0 0] 39, blk g7 [.int .i64 0, .slice none 0 0] 39, blk g5 [.int .i64 kd, .int .i64 i] 43, blk g3 [.int .i64 m, .slice B M.length c2] 39, blk g1 [.int .i64 n, .slice A12 ((addL n L i).length) c13] 39, row B M.length c2 (ci .i64 M) 3 1] := H_
    clear H_
    have HV := HS
    have HK := Kpt.refl (fun k_ => (blk g9 [.int .i64 0, .slice none 0 0] 39).own k_ ∨ (blk g7 [.int .i64 0, .slice none 0 0] 39).own k_) W16
    refine t_q (n := 5) 0 (.agg #[.int .i64 n, .slice A12 ((addL n L i).length) c13]) rfl (by kernel_rfl) (by kernel_rfl) (fun _ _ _ h => h) (fun w' hk => (R_loadN (p := ⟨g1, 0, none⟩) [.int .i64 n, .slice A12 ((addL n L i).length) c13] (by kernel_rfl) (by kernel_rfl) (by kernel_rfl) (by kernel_rfl) (two_at (hk.cellN (fun h_ => h_.elim (HV.sepB (a := 5) (b := 1) (by decide) rfl rfl) (HV.sepB (a := 5) (b := 2) (by decide) rfl rfl)) (HV.cell (i := 5) (j := 0) rfl rfl)) (hk.cellN (fun h_ => h_.elim (HV.sepB (a := 5) (b := 1) (by decide) rfl rfl) (HV.sepB (a := 5) (b := 2) (by decide) rfl rfl)) (HV.cell (i := 5) (j := 1) rfl rfl))))) HK ?_
    refine t_q (n := 4) 1 (.agg #[.int .i64 m, .slice B M.length c2]) rfl (by kernel_rfl) (by kernel_rfl) (fun _ _ _ h => h) (fun w' hk => (R_loadN (p := ⟨g3, 0, none⟩) [.int .i64 m, .slice B M.length c2] (by kernel_rfl) (by kernel_rfl) (by kernel_rfl) (by kernel_rfl) (two_at (hk.cellN (fun h_ => h_.elim (HV.sepB (a := 4) (b := 1) (by decide) rfl rfl) (HV.sepB (a := 4) (b := 2) (by decide) rfl rfl)) (HV.cell (i := 4) (j := 0) rfl rfl)) (hk.cellN (fun h_ => h_.elim (HV.sepB (a := 4) (b := 1) (by decide) rfl rfl) (HV.sepB (a := 4) (b := 2) (by decide) rfl rfl)) (HV.cell (i := 4) (j := 1) rfl rfl))))) HK ?_
    refine t_q (n := 3) 2 (.bool (addB n L i)) rfl (by kernel_rfl) (by kernel_rfl) (fun _ _ _ h => h) (fun w' hk => (by kernel_rfl)) HK ?_
    obtain ⟨W17, hrun_, H_, hk_⟩ := ex_ks (P := Tryd.prog) (ty := 0) (ps := "ref.go:105") (af := #[{ on := 0, ground := Go.Ground.data }, { on := 0, ground := Go.Ground.phase }, { on := 1, ground := (Go.Ground.textOnly Go.Departure.lateStores) }, { on := 2, ground := (Go.Ground.textOnly Go.Departure.lateStores) }]) (gd := none) (t := 39) (x := (Go.Operand.tmp 6)) (y := (Go.Operand.tmp 64)) (v := .agg #[.int .i64 n, .slice A12 ((addL n L i).length) c13]) HS 2 rfl (0) [.int .i64 n, .slice A12 ((addL n L i).length) c13] (by kernel_rfl) (by kernel_rfl) (by kernel_rfl) (by kernel_rfl) (one_ (by kernel_rfl)) (Nat.le_of_ble_eq_true rfl)
    replace HK := HK.trans hk_ (fun _ h_ => .inl (.inr (blk_own h_)))
    refine t_s (n := 2) 3 rfl (by kernel_rfl) (by kernel_rfl) hrun_ HK ?_
    clear hk_ hrun_
    replace HS : St W M_ W17 [row A12 ((addL n L i).length) c13 (ci .i64 (addL n L i)) 3 1, blk g9 [.int .i64 0, .slice none 0 0] 39, blk g7 [.int .i64 n, .slice A12 ((addL n L i).length) c13] 39, blk g5 [.int .i64 kd, .int .i64 i] 43, blk g3 [.int .i64 m, .slice B M.length c2] 39, blk g1 [.int .i64 n, .slice A12 ((addL n L i).length) c13] 39, row B M.length c2 (ci .i64 M) 3 1] := H_
    clear H_
    obtain ⟨W18, hrun_, H_, hk_⟩ := ex_ks (P := Tryd.prog) (ty := 0) (ps := "ref.go:105") (af := #[{ on := 1, ground := Go.Ground.data }, { on := 3, ground := Go.Ground.chain }, { on := 0, ground := Go.Ground.phase }, { on := 1, ground := Go.Ground.phase }, { on := 2, ground := (Go.Ground.textOnly Go.Departure.lateStores) }, { on := 3, ground := Go.Ground.phase }]) (gd := none) (t := 39) (x := (Go.Operand.tmp 7)) (y := (Go.Operand.tmp 65)) (v := .agg #[.int .i64 m, .slice B M.length c2]) HS 1 rfl (0) [.int .i64 m, .slice B M.length c2] (by kernel_rfl) (by kernel_rfl) (by kernel_rfl) (by kernel_rfl) (one_ (by kernel_rfl)) (Nat.le_of_ble_eq_true rfl)
    replace HK := HK.trans hk_ (fun _ h_ => .inl (.inl (blk_own h_)))
    refine t_s (n := 1) 4 rfl (by kernel_rfl) (by kernel_rfl) hrun_ HK ?_
    clear hk_ hrun_
    replace HS : St W M_ W18 [row A12 ((addL n L i).length) c13 (ci .i64 (addL n L i)) 3 1, blk g9 [.int .i64 m, .slice B M.length c2] 39, blk g7 [.int .i64 n, .slice A12 ((addL n L i).length) c13] 39, blk g5 [.int .i64 kd, .int .i64 i] 43, blk g3 [.int .i64 m, .slice B M.length c2] 39, blk g1 [.int .i64 n, .slice A12 ((addL n L i).length) c13] 39, row B M.length c2 (ci .i64 M) 3 1] := H_
    clear H_
    refine t_q (n := 0) 5 (.bool (addB n L i)) rfl (by kernel_rfl) (by kernel_rfl) (fun _ _ _ h => h) (fun w' hk => (by kernel_rfl)) HK ?_
    refine t_done (by kernel_rfl) ?_
    clear HV HK
    refine x_then ?_
    refine wp_ret ?_
    refine ret_ (.tuple #[.agg #[.int .i64 n, .slice A12 ((addL n L i).length) c13], .agg #[.int .i64 m, .slice B M.length c2], .bool (addB n L i)]) (res3 rfl (oneRes_agg (p := ⟨g7, 0, none⟩) [.int .i64 n, .slice A12 ((addL n L i).length) c13] (by kernel_rfl) (by kernel_rfl) (by kernel_rfl) (by kernel_rfl) (HS.cellsN (i := 2) rfl)) (oneRes_agg (p := ⟨g9, 0, none⟩) [.int .i64 m, .slice B M.length c2] (by kernel_rfl) (by kernel_rfl) (by kernel_rfl) (by kernel_rfl) (HS.cellsN (i := 1) rfl)) (oneRes_t (by kernel_rfl))) ?_
    replace HS : St W M_ W18 [row A12 ((addL n L i).length) c13 (ci .i64 (addL n L i)) 3 1, row B M.length c2 (ci .i64 M) 3 1] := St.tail (F := [blk g9 [.int .i64 m, .slice B M.length c2] 39, blk g7 [.int .i64 n, .slice A12 ((addL n L i).length) c13] 39, blk g5 [.int .i64 kd, .int .i64 i] 43, blk g3 [.int .i64 m, .slice B M.length c2] 39, blk g1 [.int .i64 n, .slice A12 ((addL n L i).length) c13] 39]) (HS.perm (perm_ [1, 2, 3, 4, 5, 0, 6] (by kernel_rfl) rfl))
    have esL : sL n m kd i L M = addL n L i := by unfold sL; rw [if_pos (show kd = 0 by omega)]
    have esM : sM n m kd i L M = M := by unfold sM; rw [if_neg (show ¬ kd = 2 by omega), if_neg (show ¬ kd = 3 by omega), if_neg (show ¬ kd = 5 by omega)]
    have esB : sB n m kd i L M = addB n L i := by unfold sB; rw [if_pos (show kd = 0 by omega)]
    exact ⟨_, _, _, _, by rw [esL, esM, esB], by rw [esL, esM]; exact HS⟩
  · skip
    refine ql (.bool false) (by kernel_rfl) (R_beq (b := (kd == (0 : Int))) (by kernel_rfl) (beq_f (hc11))) ?_
    refine ql (.bool false) (by kernel_rfl) (by kernel_rfl) ?_
    refine wpList_nil ?_
    refine x_then ?_
    refine wp_cond_false (by kernel_rfl) ?_
    refine wp_seq ?_
    refine wp_region_lit ?_
    by_cases hc19 : kd = (1 : Int)
    · skip
      refine ql (.bool true) (by kernel_rfl) (R_beq (b := (kd == (1 : Int))) (by kernel_rfl) (beq_t (hc19))) ?_
      refine ql (.bool true) (by kernel_rfl) (by kernel_rfl) ?_
      refine wpList_nil ?_
      refine x_then ?_
      refine wp_cond_true (by kernel_rfl) ?_
      refine wp_region_lit ?_
      refine ql (.agg #[.int .i64 n, .slice A L.length c]) (by kernel_rfl) (R_loadN (p := ⟨g1, 0, none⟩) [.int .i64 n, .slice A L.length c] (by kernel_rfl) (by kernel_rfl) (by kernel_rfl) (by kernel_rfl) (two_at (HS.cell (i := 4) (j := 0) rfl rfl) (HS.cell (i := 4) (j := 1) rfl rfl))) ?_
      refine ql (.pointer (some ⟨g5, 1, none⟩)) (by kernel_rfl) (by kernel_rfl) ?_
      refine ql (.int .i64 i) (by kernel_rfl) (R_load (p := ⟨g5, 1, none⟩) (by kernel_rfl) (by kernel_rfl) (by kernel_rfl) (HS.cell (i := 2) (j := 1) rfl rfl)) ?_
      refine qc (f := 30) (args := #[.agg #[.int .i64 n, .slice A L.length c], .int .i64 i]) (by kernel_rfl) (R_call #[.agg #[.int .i64 n, .slice A L.length c], .int .i64 i] Tryd.func30 (by kernel_rfl) (by kernel_rfl) (by kernel_rfl)) ?_
      replace HS : St W M_ W10 [row A L.length c (ci .i64 L) 3 1, blk g9 [.int .i64 0, .slice none 0 0] 39, blk g7 [.int .i64 0, .slice none 0 0] 39, blk g5 [.int .i64 kd, .int .i64 i] 43, blk g3 [.int .i64 m, .slice B M.length c2] 39, blk g1 [.int .i64 n, .slice A L.length c] 39, row B M.length c2 (ci .i64 M) 3 1] := HS.perm (perm_ [5, 0, 1, 2, 3, 4, 6] (by kernel_rfl) rfl)
      refine (r3del A c L n i _ _ (St.focus (F := [row A L.length c (ci .i64 L) 3 1]) HS) (by omega)).mono ?_
      rintro e W22 ⟨A20, c21, rfl, H_⟩
      refine ⟨_, rfl, ?_⟩
      replace HS : St W M_ W22 [row A20 ((delL L i).length) c21 (ci .i64 (delL L i)) 3 1, blk g9 [.int .i64 0, .slice none 0 0] 39, blk g7 [.int .i64 0, .slice none 0 0] 39, blk g5 [.int .i64 kd, .int .i64 i] 43, blk g3 [.int .i64 m, .slice B M.length c2] 39, blk g1 [.int .i64 n, .slice A L.length c] 39, row B M.length c2 (ci .i64 M) 3 1] := HS.join (F := [row A L.length c (ci .i64 L) 3 1]) (G := [row A20 ((delL L i).length) c21 (ci .i64 (delL L i)) 3 1]) H_
      clear H_
      refine ql (.tuple #[.agg #[.int .i64 n, .slice A20 ((delL L i).length) c21], .bool (delB L i)]) (by kernel_rfl) (by kernel_rfl) ?_
      refine ql (.agg #[.int .i64 n, .slice A20 ((delL L i).length) c21]) (by kernel_rfl) (by kernel_rfl) ?_
      refine ql (.bool (delB L i)) (by kernel_rfl) (by kernel_rfl) ?_
      refine ks (v := .agg #[.int .i64 n, .slice A20 ((delL L i).length) c21]) HS 5 rfl (0) [.int .i64 n, .slice A20 ((delL L i).length) c21] (by kernel_rfl) (by kernel_rfl) (by kernel_rfl) (by kernel_rfl) (by kernel_rfl) (one_ (by kernel_rfl)) (Nat.le_of_ble_eq_true rfl) rfl ?_
      intro W23 H_
      replace HS : St W M_ W23 [row A20 ((delL L i).length) c21 (ci .i64 (delL L i)) 3 1, blk g9 [.int .i64 0, .slice none 0 0] 39, blk g7 [.int .i64 0, .slice none 0 0] 39, blk g5 [.int .i64 kd, .int .i64 i] 43, blk g3 [.int .i64 m, .slice B M.length c2] 39, blk g1 [.int .i64 n, .slice A20 ((delL L i).length) c21] 39, row B M.length c2 (ci .i64 M) 3 1] := H_
      clear H_
      refine ql (.bool (delB L i)) (by kernel_rfl) (by kernel_rfl) ?_
      refine wpList_nil ?_
      refine x_inb ?_
      refine x_then ?_
      refine wp_seq ?_
      refine t_start HS (fun k_ => (blk g9 [.int .i64 0, .slice none 0 0] 39).own k_ ∨ (blk g7 [.int .i64 0, .slice none 0 0] 39).own k_) 6 (by kernel_rfl) rfl ?_
      intro W24 H_ HD_
      clear HD_
      replace HS : St W M_ W24 [row A20 ((delL L i).length) c21 (ci .i64 (delL L i)) 3 1, blk g9 [.int .i64 0, .slice none 0 0] 39, blk g7 [.int .i64 0, .slice none 0 0] 39, blk g5 [.int .i64 kd, .int .i64 i] 43, blk g3 [.int .i64 m, .slice B M.length c2] 39, blk g1 [.int .i64 n, .slice A20 ((delL L i).length) c21] 39, row B M.length c2 (ci .i64 M) 3 1] := H_
      clear H_
      have HV := HS
      have HK := Kpt.refl (fun k_ => (blk g9 [.int .i64 0, .slice none 0 0] 39).own k_ ∨ (blk g7 [.int .i64 0, .slice none 0 0] 39).own k_) W24
      refine t_q (n := 5) 0 (.agg #[.int .i64 n, .slice A20 ((delL L i).length) c21]) rfl (by kernel_rfl) (by kernel_rfl) (fun _ _ _ h => h) (fun w' hk => (R_loadN (p := ⟨g1, 0, none⟩) [.int .i64 n, .slice A20 ((delL L i).length) c21] (by kernel_rfl) (by kernel_rfl) (by kernel_rfl) (by kernel_rfl) (two_at (hk.cellN (fun h_ => h_.elim (HV.sepB (a := 5) (b := 1) (by decide) rfl rfl) (HV.sepB (a := 5) (b := 2) (by decide) rfl rfl)) (HV.cell (i := 5) (j := 0) rfl rfl)) (hk.cellN (fun h_ => h_.elim (HV.sepB (a := 5) (b := 1) (by decide) rfl rfl) (HV.sepB (a := 5) (b := 2) (by decide) rfl rfl)) (HV.cell (i := 5) (j := 1) rfl rfl))))) HK ?_
      refine t_q (n := 4) 1 (.agg #[.int .i64 m, .slice B M.length c2]) rfl (by kernel_rfl) (by kernel_rfl) (fun _ _ _ h => h) (fun w' hk => (R_loadN (p := ⟨g3, 0, none⟩) [.int .i64 m, .slice B M.length c2] (by kernel_rfl) (by kernel_rfl) (by kernel_rfl) (by kernel_rfl) (two_at (hk.cellN (fun h_ => h_.elim (HV.sepB (a := 4) (b := 1) (by decide) rfl rfl) (HV.sepB (a := 4) (b := 2) (by decide) rfl rfl)) (HV.cell (i := 4) (j := 0) rfl rfl)) (hk.cellN (fun h_ => h_.elim (HV.sepB (a := 4) (b := 1) (by decide) rfl rfl) (HV.sepB (a := 4) (b := 2) (by decide) rfl rfl)) (HV.cell (i := 4) (j := 1) rfl rfl))))) HK ?_
      refine t_q (n := 3) 2 (.bool (delB L i)) rfl (by kernel_rfl) (by kernel_rfl) (fun _ _ _ h => h) (fun w' hk => (by kernel_rfl)) HK ?_
      obtain ⟨W25, hrun_, H_, hk_⟩ := ex_ks (P := Tryd.prog) (ty := 0) (ps := "ref.go:105") (af := #[{ on := 0, ground := Go.Ground.data }, { on := 0, ground := Go.Ground.phase }, { on := 1, ground := (Go.Ground.textOnly Go.Departure.lateStores) }, { on := 2, ground := (Go.Ground.textOnly Go.Departure.lateStores) }]) (gd := none) (t := 39) (x := (Go.Operand.tmp 6)) (y := (Go.Operand.tmp 64)) (v := .agg #[.int .i64 n, .slice A20 ((delL L i).length) c21]) HS 2 rfl (0) [.int .i64 n, .slice A20 ((delL L i).length) c21] (by kernel_rfl) (by kernel_rfl) (by kernel_rfl) (by kernel_rfl) (one_ (by kernel_rfl)) (Nat.le_of_ble_eq_true rfl)
      replace HK := HK.trans hk_ (fun _ h_ => .inl (.inr (blk_own h_)))
      refine t_s (n := 2) 3 rfl (by kernel_rfl) (by kernel_rfl) hrun_ HK ?_
      clear hk_ hrun_
      replace HS : St W M_ W25 [row A20 ((delL L i).length) c21 (ci .i64 (delL L i)) 3 1, blk g9 [.int .i64 0, .slice none 0 0] 39, blk g7 [.int .i64 n, .slice A20 ((delL L i).length) c21] 39, blk g5 [.int .i64 kd, .int .i64 i] 43, blk g3 [.int .i64 m, .slice B M.length c2] 39, blk g1 [.int .i64 n, .slice A20 ((delL L i).length) c21] 39, row B M.length c2 (ci .i64 M) 3 1] := H_
      clear H_
      obtain ⟨W26, hrun_, H_, hk_⟩ := ex_ks (P := Tryd.prog) (ty := 0) (ps := "ref.go:105") (af := #[{ on := 1, ground := Go.Ground.data }, { on := 3, ground := Go.Ground.chain }, { on := 0, ground := Go.Ground.phase }, { on := 1, ground := Go.Ground.phase }, { on := 2, ground := (Go.Ground.textOnly Go.Departure.lateStores) }, { on := 3, ground := Go.Ground.phase }]) (gd := none) (t := 39) (x := (Go.Operand.tmp 7)) (y := (Go.Operand.tmp 65)) (v := .agg #[.int .i64 m, .slice B M.length c2]) HS 1 rfl (0) [.int .i64 m, .slice B M.length c2] (by kernel_rfl) (by kernel_rfl) (by kernel_rfl) (by kernel_rfl) (one_ (by kernel_rfl)) (Nat.le_of_ble_eq_true rfl)
      replace HK := HK.trans hk_ (fun _ h_ => .inl (.inl (blk_own h_)))
      refine t_s (n := 1) 4 rfl (by kernel_rfl) (by kernel_rfl) hrun_ HK ?_
      clear hk_ hrun_
      replace HS : St W M_ W26 [row A20 ((delL L i).length) c21 (ci .i64 (delL L i)) 3 1, blk g9 [.int .i64 m, .slice B M.length c2] 39, blk g7 [.int .i64 n, .slice A20 ((delL L i).length) c21] 39, blk g5 [.int .i64 kd, .int .i64 i] 43, blk g3 [.int .i64 m, .slice B M.length c2] 39, blk g1 [.int .i64 n, .slice A20 ((delL L i).length) c21] 39, row B M.length c2 (ci .i64 M) 3 1] := H_
      clear H_
      refine t_q (n := 0) 5 (.bool (delB L i)) rfl (by kernel_rfl) (by kernel_rfl) (fun _ _ _ h => h) (fun w' hk => (by kernel_rfl)) HK ?_
      refine t_done (by kernel_rfl) ?_
      clear HV HK
      refine x_then ?_
      refine wp_ret ?_
      refine ret_ (.tuple #[.agg #[.int .i64 n, .slice A20 ((delL L i).length) c21], .agg #[.int .i64 m, .slice B M.length c2], .bool (delB L i)]) (res3 rfl (oneRes_agg (p := ⟨g7, 0, none⟩) [.int .i64 n, .slice A20 ((delL L i).length) c21] (by kernel_rfl) (by kernel_rfl) (by kernel_rfl) (by kernel_rfl) (HS.cellsN (i := 2) rfl)) (oneRes_agg (p := ⟨g9, 0, none⟩) [.int .i64 m, .slice B M.length c2] (by kernel_rfl) (by kernel_rfl) (by kernel_rfl) (by kernel_rfl) (HS.cellsN (i := 1) rfl)) (oneRes_t (by kernel_rfl))) ?_
      replace HS : St W M_ W26 [row A20 ((delL L i).length) c21 (ci .i64 (delL L i)) 3 1, row B M.length c2 (ci .i64 M) 3 1] := St.tail (F := [blk g9 [.int .i64 m, .slice B M.length c2] 39, blk g7 [.int .i64 n, .slice A20 ((delL L i).length) c21] 39, blk g5 [.int .i64 kd, .int .i64 i] 43, blk g3 [.int .i64 m, .slice B M.length c2] 39, blk g1 [.int .i64 n, .slice A20 ((delL L i).length) c21] 39]) (HS.perm (perm_ [1, 2, 3, 4, 5, 0, 6] (by kernel_rfl) rfl))
      have esL : sL n m kd i L M = delL L i := by unfold sL; rw [if_neg (show ¬ kd = 0 by omega), if_pos (show kd = 1 by omega)]
      have esM : sM n m kd i L M = M := by unfold sM; rw [if_neg (show ¬ kd = 2 by omega), if_neg (show ¬ kd = 3 by omega), if_neg (show ¬ kd = 5 by omega)]
      have esB : sB n m kd i L M = delB L i := by unfold sB; rw [if_neg (show ¬ kd = 0 by omega), if_pos (show kd = 1 by omega)]
      exact ⟨_, _, _, _, by rw [esL, esM, esB], by rw [esL, esM]; exact HS⟩
    · skip
      refine ql (.bool false) (by kernel_rfl) (R_beq (b := (kd == (1 : Int))) (by kernel_rfl) (beq_f (hc19))) ?_
      refine ql (.bool false) (by kernel_rfl) (by kernel_rfl) ?_
      refine wpList_nil ?_
      refine x_then ?_
      refine wp_cond_false (by kernel_rfl) ?_
      refine wp_seq ?_
      refine wp_region_lit ?_
      by_cases hc27 : kd = (2 : Int)
      · skip
        refine ql (.bool true) (by kernel_rfl) (R_beq (b := (kd == (2 : Int))) (by kernel_rfl) (beq_t (hc27))) ?_
        refine ql (.bool true) (by kernel_rfl) (by kernel_rfl) ?_
        refine wpList_nil ?_
        refine x_then ?_
        refine wp_cond_true (by kernel_rfl) ?_
        refine wp_region_lit ?_
        refine ql (.agg #[.int .i64 m, .slice B M.length c2]) (by kernel_rfl) (R_loadN (p := ⟨g3, 0, none⟩) [.int .i64 m, .slice B M.length c2] (by kernel_rfl) (by kernel_rfl) (by kernel_rfl) (by kernel_rfl) (two_at (HS.cell (i := 3) (j := 0) rfl rfl) (HS.cell (i := 3) (j := 1) rfl rfl))) ?_
        refine ql (.pointer (some ⟨g5, 1, none⟩)) (by kernel_rfl) (by kernel_rfl) ?_
        refine ql (.int .i64 i) (by kernel_rfl) (R_load (p := ⟨g5, 1, none⟩) (by kernel_rfl) (by kernel_rfl) (by kernel_rfl) (HS.cell (i := 2) (j := 1) rfl rfl)) ?_
        refine qc (f := 29) (args := #[.agg #[.int .i64 m, .slice B M.length c2], .int .i64 i]) (by kernel_rfl) (R_call #[.agg #[.int .i64 m, .slice B M.length c2], .int .i64 i] Tryd.func29 (by kernel_rfl) (by kernel_rfl) (by kernel_rfl)) ?_
        replace HS : St W M_ W10 [row B M.length c2 (ci .i64 M) 3 1, blk g9 [.int .i64 0, .slice none 0 0] 39, blk g7 [.int .i64 0, .slice none 0 0] 39, blk g5 [.int .i64 kd, .int .i64 i] 43, blk g3 [.int .i64 m, .slice B M.length c2] 39, blk g1 [.int .i64 n, .slice A L.length c] 39, row A L.length c (ci .i64 L) 3 1] := HS.perm (perm_ [6, 0, 1, 2, 3, 4, 5] (by kernel_rfl) rfl)
        refine (r3add B c2 M m i _ _ (St.focus (F := [row B M.length c2 (ci .i64 M) 3 1]) HS) (by omega)).mono ?_
        rintro e W30 ⟨A28, c29, rfl, H_⟩
        refine ⟨_, rfl, ?_⟩
        replace HS : St W M_ W30 [row A28 ((addL m M i).length) c29 (ci .i64 (addL m M i)) 3 1, blk g9 [.int .i64 0, .slice none 0 0] 39, blk g7 [.int .i64 0, .slice none 0 0] 39, blk g5 [.int .i64 kd, .int .i64 i] 43, blk g3 [.int .i64 m, .slice B M.length c2] 39, blk g1 [.int .i64 n, .slice A L.length c] 39, row A L.length c (ci .i64 L) 3 1] := HS.join (F := [row B M.length c2 (ci .i64 M) 3 1]) (G := [row A28 ((addL m M i).length) c29 (ci .i64 (addL m M i)) 3 1]) H_
        clear H_
        refine ql (.tuple #[.agg #[.int .i64 m, .slice A28 ((addL m M i).length) c29], .bool (addB m M i)]) (by kernel_rfl) (by kernel_rfl) ?_
        refine ql (.agg #[.int .i64 m, .slice A28 ((addL m M i).length) c29]) (by kernel_rfl) (by kernel_rfl) ?_
        refine ql (.bool (addB m M i)) (by kernel_rfl) (by kernel_rfl) ?_
        refine ks (v := .agg #[.int .i64 m, .slice A28 ((addL m M i).length) c29]) HS 4 rfl (0) [.int .i64 m, .slice A28 ((addL m M i).length) c29] (by kernel_rfl) (by kernel_rfl) (by kernel_rfl) (by kernel_rfl) (by kernel_rfl) (one_ (by kernel_rfl)) (Nat.le_of_ble_eq_true rfl) rfl ?_
        intro W31 H_
        replace HS : St W M_ W31 [row A28 ((addL m M i).length) c29 (ci .i64 (addL m M i)) 3 1, blk g9 [.int .i64 0, .slice none 0 0] 39, blk g7 [.int .i64 0, .slice none 0 0] 39, blk g5 [.int .i64 kd, .int .i64 i] 43, blk g3 [.int .i64 m, .slice A28 ((addL m M i).length) c29] 39, blk g1 [.int .i64 n, .slice A L.length c] 39, row A L.length c (ci .i64 L) 3 1] := H_
        clear H_
        refine ql (.bool (addB m M i)) (by kernel_rfl) (by kernel_rfl) ?_
        refine wpList_nil ?_
        refine x_inb ?_
        refine x_then ?_
        refine wp_seq ?_
        refine t_start HS (fun k_ => (blk g9 [.int .i64 0, .slice none 0 0] 39).own k_ ∨ (blk g7 [.int .i64 0, .slice none 0 0] 39).own k_) 6 (by kernel_rfl) rfl ?_
        intro W32 H_ HD_
        clear HD_
        replace HS : St W M_ W32 [row A28 ((addL m M i).length) c29 (ci .i64 (addL m M i)) 3 1, blk g9 [.int .i64 0, .slice none 0 0] 39, blk g7 [.int .i64 0, .slice none 0 0] 39, blk g5 [.int .i64 kd, .int .i64 i] 43, blk g3 [.int .i64 m, .slice A28 ((addL m M i).length) c29] 39, blk g1 [.int .i64 n, .slice A L.length c] 39, row A L.length c (ci .i64 L) 3 1] := H_
        clear H_
        have HV := HS
        have HK := Kpt.refl (fun k_ => (blk g9 [.int .i64 0, .slice none 0 0] 39).own k_ ∨ (blk g7 [.int .i64 0, .slice none 0 0] 39).own k_) W32
        refine t_q (n := 5) 0 (.agg #[.int .i64 n, .slice A L.length c]) rfl (by kernel_rfl) (by kernel_rfl) (fun _ _ _ h => h) (fun w' hk => (R_loadN (p := ⟨g1, 0, none⟩) [.int .i64 n, .slice A L.length c] (by kernel_rfl) (by kernel_rfl) (by kernel_rfl) (by kernel_rfl) (two_at (hk.cellN (fun h_ => h_.elim (HV.sepB (a := 5) (b := 1) (by decide) rfl rfl) (HV.sepB (a := 5) (b := 2) (by decide) rfl rfl)) (HV.cell (i := 5) (j := 0) rfl rfl)) (hk.cellN (fun h_ => h_.elim (HV.sepB (a := 5) (b := 1) (by decide) rfl rfl) (HV.sepB (a := 5) (b := 2) (by decide) rfl rfl)) (HV.cell (i := 5) (j := 1) rfl rfl))))) HK ?_
        refine t_q (n := 4) 1 (.agg #[.int .i64 m, .slice A28 ((addL m M i).length) c29]) rfl (by kernel_rfl) (by kernel_rfl) (fun _ _ _ h => h) (fun w' hk => (R_loadN (p := ⟨g3, 0, none⟩) [.int .i64 m, .slice A28 ((addL m M i).length) c29] (by kernel_rfl) (by kernel_rfl) (by kernel_rfl) (by kernel_rfl) (two_at (hk.cellN (fun h_ => h_.elim (HV.sepB (a := 4) (b := 1) (by decide) rfl rfl) (HV.sepB (a := 4) (b := 2) (by decide) rfl rfl)) (HV.cell (i := 4) (j := 0) rfl rfl)) (hk.cellN (fun h_ => h_.elim (HV.sepB (a := 4) (b := 1) (by decide) rfl rfl) (HV.sepB (a := 4) (b := 2) (by decide) rfl rfl)) (HV.cell (i := 4) (j := 1) rfl rfl))))) HK ?_
        refine t_q (n := 3) 2 (.bool (addB m M i)) rfl (by kernel_rfl) (by kernel_rfl) (fun _ _ _ h => h) (fun w' hk => (by kernel_rfl)) HK ?_
        obtain ⟨W33, hrun_, H_, hk_⟩ := ex_ks (P := Tryd.prog) (ty := 0) (ps := "ref.go:105") (af := #[{ on := 0, ground := Go.Ground.data }, { on := 0, ground := Go.Ground.phase }, { on := 1, ground := (Go.Ground.textOnly Go.Departure.lateStores) }, { on := 2, ground := (Go.Ground.textOnly Go.Departure.lateStores) }]) (gd := none) (t := 39) (x := (Go.Operand.tmp 6)) (y := (Go.Operand.tmp 64)) (v := .agg #[.int .i64 n, .slice A L.length c]) HS 2 rfl (0) [.int .i64 n, .slice A L.length c] (by kernel_rfl) (by kernel_rfl) (by kernel_rfl) (by kernel_rfl) (one_ (by kernel_rfl)) (Nat.le_of_ble_eq_true rfl)
        replace HK := HK.trans hk_ (fun _ h_ => .inl (.inr (blk_own h_)))
        refine t_s (n := 2) 3 rfl (by kernel_rfl) (by kernel_rfl) hrun_ HK ?_
        clear hk_ hrun_
        replace HS : St W M_ W33 [row A28 ((addL m M i).length) c29 (ci .i64 (addL m M i)) 3 1, blk g9 [.int .i64 0, .slice none 0 0] 39, blk g7 [.int .i64 n, .slice A L.length c] 39, blk g5 [.int .i64 kd, .int .i64 i] 43, blk g3 [.int .i64 m, .slice A28 ((addL m M i).length) c29] 39, blk g1 [.int .i64 n, .slice A L.length c] 39, row A L.length c (ci .i64 L) 3 1] := H_
        clear H_
        obtain ⟨W34, hrun_, H_, hk_⟩ := ex_ks (P := Tryd.prog) (ty := 0) (ps := "ref.go:105") (af := #[{ on := 1, ground := Go.Ground.data }, { on := 3, ground := Go.Ground.chain }, { on := 0, ground := Go.Ground.phase }, { on := 1, ground := Go.Ground.phase }, { on := 2, ground := (Go.Ground.textOnly Go.Departure.lateStores) }, { on := 3, ground := Go.Ground.phase }]) (gd := none) (t := 39) (x := (Go.Operand.tmp 7)) (y := (Go.Operand.tmp 65)) (v := .agg #[.int .i64 m, .slice A28 ((addL m M i).length) c29]) HS 1 rfl (0) [.int .i64 m, .slice A28 ((addL m M i).length) c29] (by kernel_rfl) (by kernel_rfl) (by kernel_rfl) (by kernel_rfl) (one_ (by kernel_rfl)) (Nat.le_of_ble_eq_true rfl)
        replace HK := HK.trans hk_ (fun _ h_ => .inl (.inl (blk_own h_)))
        refine t_s (n := 1) 4 rfl (by kernel_rfl) (by kernel_rfl) hrun_ HK ?_
        clear hk_ hrun_
        replace HS : St W M_ W34 [row A28 ((addL m M i).length) c29 (ci .i64 (addL m M i)) 3 1, blk g9 [.int .i64 m, .slice A28 ((addL m M i).length) c29] 39, blk g7 [.int .i64 n, .slice A L.length c] 39, blk g5 [.int .i64 kd, .int .i64 i] 43, blk g3 [.int .i64 m, .slice A28 ((addL m M i).length) c29] 39, blk g1 [.int .i64 n, .slice A L.length c] 39, row A L.length c (ci .i64 L) 3 1] := H_
        clear H_
        refine t_q (n := 0) 5 (.bool (addB m M i)) rfl (by kernel_rfl) (by kernel_rfl) (fun _ _ _ h => h) (fun w' hk => (by kernel_rfl)) HK ?_
        refine t_done (by kernel_rfl) ?_
        clear HV HK
        refine x_then ?_
        refine wp_ret ?_
        refine ret_ (.tuple #[.agg #[.int .i64 n, .slice A L.length c], .agg #[.int .i64 m, .slice A28 ((addL m M i).length) c29], .bool (addB m M i)]) (res3 rfl (oneRes_agg (p := ⟨g7, 0, none⟩) [.int .i64 n, .slice A L.length c] (by kernel_rfl) (by kernel_rfl) (by kernel_rfl) (by kernel_rfl) (HS.cellsN (i := 2) rfl)) (oneRes_agg (p := ⟨g9, 0, none⟩) [.int .i64 m, .slice A28 ((addL m M i).length) c29] (by kernel_rfl) (by kernel_rfl) (by kernel_rfl) (by kernel_rfl) (HS.cellsN (i := 1) rfl)) (oneRes_t (by kernel_rfl))) ?_
        replace HS : St W M_ W34 [row A L.length c (ci .i64 L) 3 1, row A28 ((addL m M i).length) c29 (ci .i64 (addL m M i)) 3 1] := St.tail (F := [blk g9 [.int .i64 m, .slice A28 ((addL m M i).length) c29] 39, blk g7 [.int .i64 n, .slice A L.length c] 39, blk g5 [.int .i64 kd, .int .i64 i] 43, blk g3 [.int .i64 m, .slice A28 ((addL m M i).length) c29] 39, blk g1 [.int .i64 n, .slice A L.length c] 39]) (HS.perm (perm_ [1, 2, 3, 4, 5, 6, 0] (by kernel_rfl) rfl))
        have esL : sL n m kd i L M = L := by unfold sL; rw [if_neg (show ¬ kd = 0 by omega), if_neg (show ¬ kd = 1 by omega), if_neg (show ¬ kd = 4 by omega)]
        have esM : sM n m kd i L M = addL m M i := by unfold sM; rw [if_pos (show kd = 2 by omega)]
        have esB : sB n m kd i L M = addB m M i := by unfold sB; rw [if_neg (show ¬ kd = 0 by omega), if_neg (show ¬ kd = 1 by omega), if_pos (show kd = 2 by omega)]
        exact ⟨_, _, _, _, by rw [esL, esM, esB], by rw [esL, esM]; exact HS⟩
      · skip
        refine ql (.bool false) (by kernel_rfl) (R_beq (b := (kd == (2 : Int))) (by kernel_rfl) (beq_f (hc27))) ?_
        refine ql (.bool false) (by kernel_rfl) (by kernel_rfl) ?_
        refine wpList_nil ?_
        refine x_then ?_
        refine wp_cond_false (by kernel_rfl) ?_
        refine wp_seq ?_
        refine wp_region_lit ?_
        by_cases hc35 : kd = (3 : Int)
        · skip
          refine ql (.bool true) (by kernel_rfl) (R_beq (b := (kd == (3 : Int))) (by kernel_rfl) (beq_t (hc35))) ?_
          refine ql (.bool true) (by kernel_rfl) (by kernel_rfl) ?_
          refine wpList_nil ?_
          refine x_then ?_
          refine wp_cond_true (by kernel_rfl) ?_
          refine wp_region_lit ?_
          refine ql (.agg #[.int .i64 m, .slice B M.length c2]) (by kernel_rfl) (R_loadN (p := ⟨g3, 0, none⟩) [.int .i64 m, .slice B M.length c2] (by kernel_rfl) (by kernel_rfl) (by kernel_rfl) (by kernel_rfl) (two_at (HS.cell (i := 3) (j := 0) rfl rfl) (HS.cell (i := 3) (j := 1) rfl rfl))) ?_
          refine ql (.pointer (some ⟨g5, 1, none⟩)) (by kernel_rfl) (by kernel_rfl) ?_
          refine ql (.int .i64 i) (by kernel_rfl) (R_load (p := ⟨g5, 1, none⟩) (by kernel_rfl) (by kernel_rfl) (by kernel_rfl) (HS.cell (i := 2) (j := 1) rfl rfl)) ?_
          refine qc (f := 30) (args := #[.agg #[.int .i64 m, .slice B M.length c2], .int .i64 i]) (by kernel_rfl) (R_call #[.agg #[.int .i64 m, .slice B M.length c2], .int .i64 i] Tryd.func30 (by kernel_rfl) (by kernel_rfl) (by kernel_rfl)) ?_
          replace HS : St W M_ W10 [row B M.length c2 (ci .i64 M) 3 1, blk g9 [.int .i64 0, .slice none 0 0] 39, blk g7 [.int .i64 0, .slice none 0 0] 39, blk g5 [.int .i64 kd, .int .i64 i] 43, blk g3 [.int .i64 m, .slice B M.length c2] 39, blk g1 [.int .i64 n, .slice A L.length c] 39, row A L.length c (ci .i64 L) 3 1] := HS.perm (perm_ [6, 0, 1, 2, 3, 4, 5] (by kernel_rfl) rfl)
          refine (r3del B c2 M m i _ _ (St.focus (F := [row B M.length c2 (ci .i64 M) 3 1]) HS) (by omega)).mono ?_
          rintro e W38 ⟨A36, c37, rfl, H_⟩
          refine ⟨_, rfl, ?_⟩
          replace HS : St W M_ W38 [row A36 ((delL M i).length) c37 (ci .i64 (delL M i)) 3 1, blk g9 [.int .i64 0, .slice none 0 0] 39, blk g7 [.int .i64 0, .slice none 0 0] 39, blk g5 [.int .i64 kd, .int .i64 i] 43, blk g3 [.int .i64 m, .slice B M.length c2] 39, blk g1 [.int .i64 n, .slice A L.length c] 39, row A L.length c (ci .i64 L) 3 1] := HS.join (F := [row B M.length c2 (ci .i64 M) 3 1]) (G := [row A36 ((delL M i).length) c37 (ci .i64 (delL M i)) 3 1]) H_
          clear H_
          refine ql (.tuple #[.agg #[.int .i64 m, .slice A36 ((delL M i).length) c37], .bool (delB M i)]) (by kernel_rfl) (by kernel_rfl) ?_
          refine ql (.agg #[.int .i64 m, .slice A36 ((delL M i).length) c37]) (by kernel_rfl) (by kernel_rfl) ?_
          refine ql (.bool (delB M i)) (by kernel_rfl) (by kernel_rfl) ?_
          refine ks (v := .agg #[.int .i64 m, .slice A36 ((delL M i).length) c37]) HS 4 rfl (0) [.int .i64 m, .slice A36 ((delL M i).length) c37] (by kernel_rfl) (by kernel_rfl) (by kernel_rfl) (by kernel_rfl) (by kernel_rfl) (one_ (by kernel_rfl)) (Nat.le_of_ble_eq_true rfl) rfl ?_
          intro W39 H_
          replace HS : St W M_ W39 [row A36 ((delL M i).length) c37 (ci .i64 (delL M i)) 3 1, blk g9 [.int .i64 0, .slice none 0 0] 39, blk g7 [.int .i64 0, .slice none 0 0] 39, blk g5 [.int .i64 kd, .int .i64 i] 43, blk g3 [.int .i64 m, .slice A36 ((delL M i).length) c37] 39, blk g1 [.int .i64 n, .slice A L.length c] 39, row A L.length c (ci .i64 L) 3 1] := H_
          clear H_
          refine ql (.bool (delB M i)) (by kernel_rfl) (by kernel_rfl) ?_
          refine wpList_nil ?_
          refine x_inb ?_
          refine x_then ?_
          refine wp_seq ?_
          refine t_start HS (fun k_ => (blk g9 [.int .i64 0, .slice none 0 0] 39).own k_ ∨ (blk g7 [.int .i64 0, .slice none 0 0] 39).own k_) 6 (by kernel_rfl) rfl ?_
          intro W40 H_ HD_
          clear HD_
          replace HS : St W M_ W40 [row A36 ((delL M i).length) c37 (ci .i64 (delL M i)) 3 1, blk g9 [.int .i64 0, .slice none 0 0] 39, blk g7 [.int .i64 0, .slice none 0 0] 39, blk g5 [.int .i64 kd, .int .i64 i] 43, blk g3 [.int .i64 m, .slice A36 ((delL M i).length) c37] 39, blk g1 [.int .i64 n, .slice A L.length c] 39, row A L.length c (ci .i64 L) 3 1] := H_
          clear H_
          have HV := HS
          have HK := Kpt.refl (fun k_ => (blk g9 [.int .i64 0, .slice none 0 0] 39).own k_ ∨ (blk g7 [.int .i64 0, .slice none 0 0] 39).own k_) W40
          refine t_q (n := 5) 0 (.agg #[.int .i64 n, .slice A L.length c]) rfl (by kernel_rfl) (by kernel_rfl) (fun _ _ _ h => h) (fun w' hk => (R_loadN (p := ⟨g1, 0, none⟩) [.int .i64 n, .slice A L.length c] (by kernel_rfl) (by kernel_rfl) (by kernel_rfl) (by kernel_rfl) (two_at (hk.cellN (fun h_ => h_.elim (HV.sepB (a := 5) (b := 1) (by decide) rfl rfl) (HV.sepB (a := 5) (b := 2) (by decide) rfl rfl)) (HV.cell (i := 5) (j := 0) rfl rfl)) (hk.cellN (fun h_ => h_.elim (HV.sepB (a := 5) (b := 1) (by decide) rfl rfl) (HV.sepB (a := 5) (b := 2) (by decide) rfl rfl)) (HV.cell (i := 5) (j := 1) rfl rfl))))) HK ?_
          refine t_q (n := 4) 1 (.agg #[.int .i64 m, .slice A36 ((delL M i).length) c37]) rfl (by kernel_rfl) (by kernel_rfl) (fun _ _ _ h => h) (fun w' hk => (R_loadN (p := ⟨g3, 0, none⟩) [.int .i64 m, .slice A36 ((delL M i).length) c37] (by kernel_rfl) (by kernel_rfl) (by kernel_rfl) (by kernel_rfl) (two_at (hk.cellN (fun h_ => h_.elim (HV.sepB (a := 4) (b := 1) (by decide) rfl rfl) (HV.sepB (a := 4) (b := 2) (by decide) rfl rfl)) (HV.cell (i := 4) (j := 0) rfl rfl)) (hk.cellN (fun h_ => h_.elim (HV.sepB (a := 4) (b := 1) (by decide) rfl rfl) (HV.sepB (a := 4) (b := 2) (by decide) rfl rfl)) (HV.cell (i := 4) (j := 1) rfl rfl))))) HK ?_
          refine t_q (n := 3) 2 (.bool (delB M i)) rfl (by kernel_rfl) (by kernel_rfl) (fun _ _ _ h => h) (fun w' hk => (by kernel_rfl)) HK ?_
          obtain ⟨W41, hrun_, H_, hk_⟩ := ex_ks (P := Tryd.prog) (ty := 0) (ps := "ref.go:105") (af := #[{ on := 0, ground := Go.Ground.data }, { on := 0, ground := Go.Ground.phase }, { on := 1, ground := (Go.Ground.textOnly Go.Departure.lateStores) }, { on := 2, ground := (Go.Ground.textOnly Go.Departure.lateStores) }]) (gd := none) (t := 39) (x := (Go.Operand.tmp 6)) (y := (Go.Operand.tmp 64)) (v := .agg #[.int .i64 n, .slice A L.length c]) HS 2 rfl (0) [.int .i64 n, .slice A L.length c] (by kernel_rfl) (by kernel_rfl) (by kernel_rfl) (by kernel_rfl) (one_ (by kernel_rfl)) (Nat.le_of_ble_eq_true rfl)
          replace HK := HK.trans hk_ (fun _ h_ => .inl (.inr (blk_own h_)))
          refine t_s (n := 2) 3 rfl (by kernel_rfl) (by kernel_rfl) hrun_ HK ?_
          clear hk_ hrun_
          replace HS : St W M_ W41 [row A36 ((delL M i).length) c37 (ci .i64 (delL M i)) 3 1, blk g9 [.int .i64 0, .slice none 0 0] 39, blk g7 [.int .i64 n, .slice A L.length c] 39, blk g5 [.int .i64 kd, .int .i64 i] 43, blk g3 [.int .i64 m, .slice A36 ((delL M i).length) c37] 39, blk g1 [.int .i64 n, .slice A L.length c] 39, row A L.length c (ci .i64 L) 3 1] := H_
          clear H_
          obtain ⟨W42, hrun_, H_, hk_⟩ := ex_ks (P := Tryd.prog) (ty := 0) (ps := "ref.go:105") (af := #[{ on := 1, ground := Go.Ground.data }, { on := 3, ground := Go.Ground.chain }, { on := 0, ground := Go.Ground.phase }, { on := 1, ground := Go.Ground.phase }, { on := 2, ground := (Go.Ground.textOnly Go.Departure.lateStores) }, { on := 3, ground := Go.Ground.phase }]) (gd := none) (t := 39) (x := (Go.Operand.tmp 7)) (y := (Go.Operand.tmp 65)) (v := .agg #[.int .i64 m, .slice A36 ((delL M i).length) c37]) HS 1 rfl (0) [.int .i64 m, .slice A36 ((delL M i).length) c37] (by kernel_rfl) (by kernel_rfl) (by kernel_rfl) (by kernel_rfl) (one_ (by kernel_rfl)) (Nat.le_of_ble_eq_true rfl)
          replace HK := HK.trans hk_ (fun _ h_ => .inl (.inl (blk_own h_)))
          refine t_s (n := 1) 4 rfl (by kernel_rfl) (by kernel_rfl) hrun_ HK ?_
          clear hk_ hrun_
          replace HS : St W M_ W42 [row A36 ((delL M i).length) c37 (ci .i64 (delL M i)) 3 1, blk g9 [.int .i64 m, .slice A36 ((delL M i).length) c37] 39, blk g7 [.int .i64 n, .slice A L.length c] 39, blk g5 [.int .i64 kd, .int .i64 i] 43, blk g3 [.int .i64 m, .slice A36 ((delL M i).length) c37] 39, blk g1 [.int .i64 n, .slice A L.length c] 39, row A L.length c (ci .i64 L) 3 1] := H_
          clear H_
          refine t_q (n := 0) 5 (.bool (delB M i)) rfl (by kernel_rfl) (by kernel_rfl) (fun _ _ _ h => h) (fun w' hk => (by kernel_rfl)) HK ?_
          refine t_done (by kernel_rfl) ?_
          clear HV HK
          refine x_then ?_
          refine wp_ret ?_
          refine ret_ (.tuple #[.agg #[.int .i64 n, .slice A L.length c], .agg #[.int .i64 m, .slice A36 ((delL M i).length) c37], .bool (delB M i)]) (res3 rfl (oneRes_agg (p := ⟨g7, 0, none⟩) [.int .i64 n, .slice A L.length c] (by kernel_rfl) (by kernel_rfl) (by kernel_rfl) (by kernel_rfl) (HS.cellsN (i := 2) rfl)) (oneRes_agg (p := ⟨g9, 0, none⟩) [.int .i64 m, .slice A36 ((delL M i).length) c37] (by kernel_rfl) (by kernel_rfl) (by kernel_rfl) (by kernel_rfl) (HS.cellsN (i := 1) rfl)) (oneRes_t (by kernel_rfl))) ?_
          replace HS : St W M_ W42 [row A L.length c (ci .i64 L) 3 1, row A36 ((delL M i).length) c37 (ci .i64 (delL M i)) 3 1] := St.tail (F := [blk g9 [.int .i64 m, .slice A36 ((delL M i).length) c37] 39, blk g7 [.int .i64 n, .slice A L.length c] 39, blk g5 [.int .i64 kd, .int .i64 i] 43, blk g3 [.int .i64 m, .slice A36 ((delL M i).length) c37] 39, blk g1 [.int .i64 n, .slice A L.length c] 39]) (HS.perm (perm_ [1, 2, 3, 4, 5, 6, 0] (by kernel_rfl) rfl))
          have esL : sL n m kd i L M = L := by unfold sL; rw [if_neg (show ¬ kd = 0 by omega), if_neg (show ¬ kd = 1 by omega), if_neg (show ¬ kd = 4 by omega)]
          have esM : sM n m kd i L M = delL M i := by unfold sM; rw [if_neg (show ¬ kd = 2 by omega), if_pos (show kd = 3 by omega)]
          have esB : sB n m kd i L M = delB M i := by unfold sB; rw [if_neg (show ¬ kd = 0 by omega), if_neg (show ¬ kd = 1 by omega), if_neg (show ¬ kd = 2 by omega), if_pos (show kd = 3 by omega)]
          exact ⟨_, _, _, _, by rw [esL, esM, esB], by rw [esL, esM]; exact HS⟩
        · skip
          refine ql (.bool false) (by kernel_rfl) (R_beq (b := (kd == (3 : Int))) (by kernel_rfl) (beq_f (hc35))) ?_
          refine ql (.bool false) (by kernel_rfl) (by kernel_rfl) ?_
          refine wpList_nil ?_
          refine x_then ?_
          refine wp_cond_false (by kernel_rfl) ?_
          refine wp_seq ?_
          refine wp_region_lit ?_
          by_cases hc43 : kd = (4 : Int)
          · skip
            refine ql (.bool true) (by kernel_rfl) (R_beq (b := (kd == (4 : Int))) (by kernel_rfl) (beq_t (hc43))) ?_
            refine ql (.bool true) (by kernel_rfl) (by kernel_rfl) ?_
            refine wpList_nil ?_
            refine x_then ?_
            refine wp_cond_true (by kernel_rfl) ?_
            refine wp_region_lit ?_
            refine ql (.agg #[.int .i64 n, .slice A L.length c]) (by kernel_rfl) (R_loadN (p := ⟨g1, 0, none⟩) [.int .i64 n, .slice A L.length c] (by kernel_rfl) (by kernel_rfl) (by kernel_rfl) (by kernel_rfl) (two_at (HS.cell (i := 4) (j := 0) rfl rfl) (HS.cell (i := 4) (j := 1) rfl rfl))) ?_
            refine ql (.agg #[.int .i64 m, .slice B M.length c2]) (by kernel_rfl) (R_loadN (p := ⟨g3, 0, none⟩) [.int .i64 m, .slice B M.length c2] (by kernel_rfl) (by kernel_rfl) (by kernel_rfl) (by kernel_rfl) (two_at (HS.cell (i := 3) (j := 0) rfl rfl) (HS.cell (i := 3) (j := 1) rfl rfl))) ?_
            refine qc (f := 31) (args := #[.agg #[.int .i64 n, .slice A L.length c], .agg #[.int .i64 m, .slice B M.length c2]]) (by kernel_rfl) (R_call #[.agg #[.int .i64 n, .slice A L.length c], .agg #[.int .i64 m, .slice B M.length c2]] Tryd.func31 (by kernel_rfl) (by kernel_rfl) (by kernel_rfl)) ?_
            replace HS : St W M_ W10 [row A L.length c (ci .i64 L) 3 1, row B M.length c2 (ci .i64 M) 3 1, blk g9 [.int .i64 0, .slice none 0 0] 39, blk g7 [.int .i64 0, .slice none 0 0] 39, blk g5 [.int .i64 kd, .int .i64 i] 43, blk g3 [.int .i64 m, .slice B M.length c2] 39, blk g1 [.int .i64 n, .slice A L.length c] 39] := HS.perm (perm_ [5, 6, 0, 1, 2, 3, 4] (by kernel_rfl) rfl)
            by_cases hnm0 : n = m
            · skip
              refine (r3or_e2 A c L n B c2 M m _ _ (St.focus (F := [row A L.length c (ci .i64 L) 3 1, row B M.length c2 (ci .i64 M) 3 1]) HS) (by omega) (by omega) (by omega) hsM hlM).mono ?_
              rintro e W46 ⟨A44, c45, rfl, H_⟩
              refine ⟨_, rfl, ?_⟩
              replace HS : St W M_ W46 [row A44 ((uni L M).length) c45 (ci .i64 (uni L M)) 3 1, row B M.length c2 (ci .i64 M) 3 1, blk g9 [.int .i64 0, .slice none 0 0] 39, blk g7 [.int .i64 0, .slice none 0 0] 39, blk g5 [.int .i64 kd, .int .i64 i] 43, blk g3 [.int .i64 m, .slice B M.length c2] 39, blk g1 [.int .i64 n, .slice A L.length c] 39] := HS.join (F := [row A L.length c (ci .i64 L) 3 1, row B M.length c2 (ci .i64 M) 3 1]) (G := [row A44 ((uni L M).length) c45 (ci .i64 (uni L M)) 3 1, row B M.length c2 (ci .i64 M) 3 1]) H_
              clear H_
              refine ql (.tuple #[.agg #[.int .i64 n, .slice A44 ((uni L M).length) c45], .bool (newB L M)]) (by kernel_rfl) (by kernel_rfl) ?_
              refine ql (.agg #[.int .i64 n, .slice A44 ((uni L M).length) c45]) (by kernel_rfl) (by kernel_rfl) ?_
              refine ql (.bool (newB L M)) (by kernel_rfl) (by kernel_rfl) ?_
              refine ks (v := .agg #[.int .i64 n, .slice A44 ((uni L M).length) c45]) HS 6 rfl (0) [.int .i64 n, .slice A44 ((uni L M).length) c45] (by kernel_rfl) (by kernel_rfl) (by kernel_rfl) (by kernel_rfl) (by kernel_rfl) (one_ (by kernel_rfl)) (Nat.le_of_ble_eq_true rfl) rfl ?_
              intro W47 H_
              replace HS : St W M_ W47 [row A44 ((uni L M).length) c45 (ci .i64 (uni L M)) 3 1, row B M.length c2 (ci .i64 M) 3 1, blk g9 [.int .i64 0, .slice none 0 0] 39, blk g7 [.int .i64 0, .slice none 0 0] 39, blk g5 [.int .i64 kd, .int .i64 i] 43, blk g3 [.int .i64 m, .slice B M.length c2] 39, blk g1 [.int .i64 n, .slice A44 ((uni L M).length) c45] 39] := H_
              clear H_
              refine ql (.bool (newB L M)) (by kernel_rfl) (by kernel_rfl) ?_
              refine wpList_nil ?_
              refine x_inb ?_
              refine x_then ?_
              refine wp_seq ?_
              refine t_start HS (fun k_ => (blk g9 [.int .i64 0, .slice none 0 0] 39).own k_ ∨ (blk g7 [.int .i64 0, .slice none 0 0] 39).own k_) 6 (by kernel_rfl) rfl ?_
              intro W48 H_ HD_
              clear HD_
              replace HS : St W M_ W48 [row A44 ((uni L M).length) c45 (ci .i64 (uni L M)) 3 1, row B M.length c2 (ci .i64 M) 3 1, blk g9 [.int .i64 0, .slice none 0 0] 39, blk g7 [.int .i64 0, .slice none 0 0] 39, blk g5 [.int .i64 kd, .int .i64 i] 43, blk g3 [.int .i64 m, .slice B M.length c2] 39, blk g1 [.int .i64 n, .slice A44 ((uni L M).length) c45] 39] := H_
              clear H_
              have HV := HS
              have HK := Kpt.refl (fun k_ => (blk g9 [.int .i64 0, .slice none 0 0] 39).own k_ ∨ (blk g7 [.int .i64 0, .slice none 0 0] 39).own k_) W48
              refine t_q (n := 5) 0 (.agg #[.int .i64 n, .slice A44 ((uni L M).length) c45]) rfl (by kernel_rfl) (by kernel_rfl) (fun _ _ _ h => h) (fun w' hk => (R_loadN (p := ⟨g1, 0, none⟩) [.int .i64 n, .slice A44 ((uni L M).length) c45] (by kernel_rfl) (by kernel_rfl) (by kernel_rfl) (by kernel_rfl) (two_at (hk.cellN (fun h_ => h_.elim (HV.sepB (a := 6) (b := 2) (by decide) rfl rfl) (HV.sepB (a := 6) (b := 3) (by decide) rfl rfl)) (HV.cell (i := 6) (j := 0) rfl rfl)) (hk.cellN (fun h_ => h_.elim (HV.sepB (a := 6) (b := 2) (by decide) rfl rfl) (HV.sepB (a := 6) (b := 3) (by decide) rfl rfl)) (HV.cell (i := 6) (j := 1) rfl rfl))))) HK ?_
              refine t_q (n := 4) 1 (.agg #[.int .i64 m, .slice B M.length c2]) rfl (by kernel_rfl) (by kernel_rfl) (fun _ _ _ h => h) (fun w' hk => (R_loadN (p := ⟨g3, 0, none⟩) [.int .i64 m, .slice B M.length c2] (by kernel_rfl) (by kernel_rfl) (by kernel_rfl) (by kernel_rfl) (two_at (hk.cellN (fun h_ => h_.elim (HV.sepB (a := 5) (b := 2) (by decide) rfl rfl) (HV.sepB (a := 5) (b := 3) (by decide) rfl rfl)) (HV.cell (i := 5) (j := 0) rfl rfl)) (hk.cellN (fun h_ => h_.elim (HV.sepB (a := 5) (b := 2) (by decide) rfl rfl) (HV.sepB (a := 5) (b := 3) (by decide) rfl rfl)) (HV.cell (i := 5) (j := 1) rfl rfl))))) HK ?_
              refine t_q (n := 3) 2 (.bool (newB L M)) rfl (by kernel_rfl) (by kernel_rfl) (fun _ _ _ h => h) (fun w' hk => (by kernel_rfl)) HK ?_
              obtain ⟨W49, hrun_, H_, hk_⟩ := ex_ks (P := Tryd.prog) (ty := 0) (ps := "ref.go:105") (af := #[{ on := 0, ground := Go.Ground.data }, { on := 0, ground := Go.Ground.phase }, { on := 1, ground := (Go.Ground.textOnly Go.Departure.lateStores) }, { on := 2, ground := (Go.Ground.textOnly Go.Departure.lateStores) }]) (gd := none) (t := 39) (x := (Go.Operand.tmp 6)) (y := (Go.Operand.tmp 64)) (v := .agg #[.int .i64 n, .slice A44 ((uni L M).length) c45]) HS 3 rfl (0) [.int .i64 n, .slice A44 ((uni L M).length) c45] (by kernel_rfl) (by kernel_rfl) (by kernel_rfl) (by kernel_rfl) (one_ (by kernel_rfl)) (Nat.le_of_ble_eq_true rfl)
              replace HK := HK.trans hk_ (fun _ h_ => .inl (.inr (blk_own h_)))
              refine t_s (n := 2) 3 rfl (by kernel_rfl) (by kernel_rfl) hrun_ HK ?_
              clear hk_ hrun_
              replace HS : St W M_ W49 [row A44 ((uni L M).length) c45 (ci .i64 (uni L M)) 3 1, row B M.length c2 (ci .i64 M) 3 1, blk g9 [.int .i64 0, .slice none 0 0] 39, blk g7 [.int .i64 n, .slice A44 ((uni L M).length) c45] 39, blk g5 [.int .i64 kd, .int .i64 i] 43, blk g3 [.int .i64 m, .slice B M.length c2] 39, blk g1 [.int .i64 n, .slice A44 ((uni L M).length) c45] 39] := H_
              clear H_
              obtain ⟨W50, hrun_, H_, hk_⟩ := ex_ks (P := Tryd.prog) (ty := 0) (ps := "ref.go:105") (af := #[{ on := 1, ground := Go.Ground.data }, { on := 3, ground := Go.Ground.chain }, { on := 0, ground := Go.Ground.phase }, { on := 1, ground := Go.Ground.phase }, { on := 2, ground := (Go.Ground.textOnly Go.Departure.lateStores) }, { on := 3, ground := Go.Ground.phase }]) (gd := none) (t := 39) (x := (Go.Operand.tmp 7)) (y := (Go.Operand.tmp 65)) (v := .agg #[.int .i64 m, .slice B M.length c2]) HS 2 rfl (0) [.int .i64 m, .slice B M.length c2] (by kernel_rfl) (by kernel_rfl) (by kernel_rfl) (by kernel_rfl) (one_ (by kernel_rfl)) (Nat.le_of_ble_eq_true rfl)
              replace HK := HK.trans hk_ (fun _ h_ => .inl (.inl (blk_own h_)))
              refine t_s (n := 1) 4 rfl (by kernel_rfl) (by kernel_rfl) hrun_ HK ?_
              clear hk_ hrun_
              replace HS : St W M_ W50 [row A44 ((uni L M).length) c45 (ci .i64 (uni L M)) 3 1, row B M.length c2 (ci .i64 M) 3 1, blk g9 [.int .i64 m, .slice B M.length c2] 39, blk g7 [.int .i64 n, .slice A44 ((uni L M).length) c45] 39, blk g5 [.int .i64 kd, .int .i64 i] 43, blk g3 [.int .i64 m, .slice B M.length c2] 39, blk g1 [.int .i64 n, .slice A44 ((uni L M).length) c45] 39] := H_
              clear H_
              refine t_q (n := 0) 5 (.bool (newB L M)) rfl (by kernel_rfl) (by kernel_rfl) (fun _ _ _ h => h) (fun w' hk => (by kernel_rfl)) HK ?_
              refine t_done (by kernel_rfl) ?_
              clear HV HK
              refine x_then ?_
              refine wp_ret ?_
              refine ret_ (.tuple #[.agg #[.int .i64 n, .slice A44 ((uni L M).length) c45], .agg #[.int .i64 m, .slice B M.length c2], .bool (newB L M)]) (res3 rfl (oneRes_agg (p := ⟨g7, 0, none⟩) [.int .i64 n, .slice A44 ((uni L M).length) c45] (by kernel_rfl) (by kernel_rfl) (by kernel_rfl) (by kernel_rfl) (HS.cellsN (i := 3) rfl)) (oneRes_agg (p := ⟨g9, 0, none⟩) [.int .i64 m, .slice B M.length c2] (by kernel_rfl) (by kernel_rfl) (by kernel_rfl) (by kernel_rfl) (HS.cellsN (i := 2) rfl)) (oneRes_t (by kernel_rfl))) ?_
              replace HS : St W M_ W50 [row A44 ((uni L M).length) c45 (ci .i64 (uni L M)) 3 1, row B M.length c2 (ci .i64 M) 3 1] := St.tail (F := [blk g9 [.int .i64 m, .slice B M.length c2] 39, blk g7 [.int .i64 n, .slice A44 ((uni L M).length) c45] 39, blk g5 [.int .i64 kd, .int .i64 i] 43, blk g3 [.int .i64 m, .slice B M.length c2] 39, blk g1 [.int .i64 n, .slice A44 ((uni L M).length) c45] 39]) (HS.perm (perm_ [2, 3, 4, 5, 6, 0, 1] (by kernel_rfl) rfl))
              have esL : sL n m kd i L M = uni L M := by unfold sL; rw [if_neg (show ¬ kd = 0 by omega), if_neg (show ¬ kd = 1 by omega), if_pos (show kd = 4 by omega), if_pos (show n = m by omega)]
              have esM : sM n m kd i L M = M := by unfold sM; rw [if_neg (show ¬ kd = 2 by omega), if_neg (show ¬ kd = 3 by omega), if_neg (show ¬ kd = 5 by omega)]
              have esB : sB n m kd i L M = newB L M := by unfold sB; rw [if_neg (show ¬ kd = 0 by omega), if_neg (show ¬ kd = 1 by omega), if_neg (show ¬ kd = 2 by omega), if_neg (show ¬ kd = 3 by omega), if_pos (show kd = 4 by omega), if_pos (show n = m by omega)]
              exact ⟨_, _, _, _, by rw [esL, esM, esB], by rw [esL, esM]; exact HS⟩
            · skip
              refine (r3or_ne A c L n B c2 M m _ _ (St.focus (F := [row A L.length c (ci .i64 L) 3 1, row B M.length c2 (ci .i64 M) 3 1]) HS) (by omega) (by omega) (by omega)).mono ?_
              rintro e W51 ⟨rfl, H_⟩
              refine ⟨_, rfl, ?_⟩
              replace HS : St W M_ W51 [row A L.length c (ci .i64 L) 3 1, row B M.length c2 (ci .i64 M) 3 1, blk g9 [.int .i64 0, .slice none 0 0] 39, blk g7 [.int .i64 0, .slice none 0 0] 39, blk g5 [.int .i64 kd, .int .i64 i] 43, blk g3 [.int .i64 m, .slice B M.length c2] 39, blk g1 [.int .i64 n, .slice A L.length c] 39] := HS.join (F := [row A L.length c (ci .i64 L) 3 1, row B M.length c2 (ci .i64 M) 3 1]) (G := [row A L.length c (ci .i64 L) 3 1, row B M.length c2 (ci .i64 M) 3 1]) H_
              clear H_
              refine ql (.tuple #[.agg #[.int .i64 n, .slice A L.length c], .bool false]) (by kernel_rfl) (by kernel_rfl) ?_
              refine ql (.agg #[.int .i64 n, .slice A L.length c]) (by kernel_rfl) (by kernel_rfl) ?_
              refine ql (.bool false) (by kernel_rfl) (by kernel_rfl) ?_
              refine ks (v := .agg #[.int .i64 n, .slice A L.length c]) HS 6 rfl (0) [.int .i64 n, .slice A L.length c] (by kernel_rfl) (by kernel_rfl) (by kernel_rfl) (by kernel_rfl) (by kernel_rfl) (one_ (by kernel_rfl)) (Nat.le_of_ble_eq_true rfl) rfl ?_
              intro W52 H_
              replace HS : St W M_ W52 [row A L.length c (ci .i64 L) 3 1, row B M.length c2 (ci .i64 M) 3 1, blk g9 [.int .i64 0, .slice none 0 0] 39, blk g7 [.int .i64 0, .slice none 0 0] 39, blk g5 [.int .i64 kd, .int .i64 i] 43, blk g3 [.int .i64 m, .slice B M.length c2] 39, blk g1 [.int .i64 n, .slice A L.length c] 39] := H_
              clear H_
              refine ql (.bool false) (by kernel_rfl) (by kernel_rfl) ?_
              refine wpList_nil ?_
              refine x_inb ?_
              refine x_then ?_
              refine wp_seq ?_
              refine t_start HS (fun k_ => (blk g9 [.int .i64 0, .slice none 0 0] 39).own k_ ∨ (blk g7 [.int .i64 0, .slice none 0 0] 39).own k_) 6 (by kernel_rfl) rfl ?_
              intro W53 H_ HD_
              clear HD_
              replace HS : St W M_ W53 [row A L.length c (ci .i64 L) 3 1, row B M.length c2 (ci .i64 M) 3 1, blk g9 [.int .i64 0, .slice none 0 0] 39, blk g7 [.int .i64 0, .slice none 0 0] 39, blk g5 [.int .i64 kd, .int .i64 i] 43, blk g3 [.int .i64 m, .slice B M.length c2] 39, blk g1 [.int .i64 n, .slice A L.length c] 39] := H_
              clear H_
              have HV := HS
              have HK := Kpt.refl (fun k_ => (blk g9 [.int .i64 0, .slice none 0 0] 39).own k_ ∨ (blk g7 [.int .i64 0, .slice none 0 0] 39).own k_) W53
              refine t_q (n := 5) 0 (.agg #[.int .i64 n, .slice A L.length c]) rfl (by kernel_rfl) (by kernel_rfl) (fun _ _ _ h => h) (fun w' hk => (R_loadN (p := ⟨g1, 0, none⟩) [.int .i64 n, .slice A L.length c] (by kernel_rfl) (by kernel_rfl) (by kernel_rfl) (by kernel_rfl) (two_at (hk.cellN (fun h_ => h_.elim (HV.sepB (a := 6) (b := 2) (by decide) rfl rfl) (HV.sepB (a := 6) (b := 3) (by decide) rfl rfl)) (HV.cell (i := 6) (j := 0) rfl rfl)) (hk.cellN (fun h_ => h_.elim (HV.sepB (a := 6) (b := 2) (by decide) rfl rfl) (HV.sepB (a := 6) (b := 3) (by decide) rfl rfl)) (HV.cell (i := 6) (j := 1) rfl rfl))))) HK ?_
              refine t_q (n := 4) 1 (.agg #[.int .i64 m, .slice B M.length c2]) rfl (by kernel_rfl) (by kernel_rfl) (fun _ _ _ h => h) (fun w' hk => (R_loadN (p := ⟨g3, 0, none⟩) [.int .i64 m, .slice B M.length c2] (by kernel_rfl) (by kernel_rfl) (by kernel_rfl) (by kernel_rfl) (two_at (hk.cellN (fun h_ => h_.elim (HV.sepB (a := 5) (b := 2) (by decide) rfl rfl) (HV.sepB (a := 5) (b := 3) (by decide) rfl rfl)) (HV.cell (i := 5) (j := 0) rfl rfl)) (hk.cellN (fun h_ => h_.elim (HV.sepB (a := 5) (b := 2) (by decide) rfl rfl) (HV.sepB (a := 5) (b := 3) (by decide) rfl rfl)) (HV.cell (i := 5) (j := 1) rfl rfl))))) HK ?_
              refine t_q (n := 3) 2 (.bool false) rfl (by kernel_rfl) (by kernel_rfl) (fun _ _ _ h => h) (fun w' hk => (by kernel_rfl)) HK ?_
              obtain ⟨W54, hrun_, H_, hk_⟩ := ex_ks (P := Tryd.prog) (ty := 0) (ps := "ref.go:105") (af := #[{ on := 0, ground := Go.Ground.data }, { on := 0, ground := Go.Ground.phase }, { on := 1, ground := (Go.Ground.textOnly Go.Departure.lateStores) }, { on := 2, ground := (Go.Ground.textOnly Go.Departure.lateStores) }]) (gd := none) (t := 39) (x := (Go.Operand.tmp 6)) (y := (Go.Operand.tmp 64)) (v := .agg #[.int .i64 n, .slice A L.length c]) HS 3 rfl (0) [.int .i64 n, .slice A L.length c] (by kernel_rfl) (by kernel_rfl) (by kernel_rfl) (by kernel_rfl) (one_ (by kernel_rfl)) (Nat.le_of_ble_eq_true rfl)
              replace HK := HK.trans hk_ (fun _ h_ => .inl (.inr (blk_own h_)))
              refine t_s (n := 2) 3 rfl (by kernel_rfl) (by kernel_rfl) hrun_ HK ?_
              clear hk_ hrun_
              replace HS : St W M_ W54 [row A L.length c (ci .i64 L) 3 1, row B M.length c2 (ci .i64 M) 3 1, blk g9 [.int .i64 0, .slice none 0 0] 39, blk g7 [.int .i64 n, .slice A L.length c] 39, blk g5 [.int .i64 kd, .int .i64 i] 43, blk g3 [.int .i64 m, .slice B M.length c2] 39, blk g1 [.int .i64 n, .slice A L.length c] 39] := H_
              clear H_
              obtain ⟨W55, hrun_, H_, hk_⟩ := ex_ks (P := Tryd.prog) (ty := 0) (ps := "ref.go:105") (af := #[{ on := 1, ground := Go.Ground.data }, { on := 3, ground := Go.Ground.chain }, { on := 0, ground := Go.Ground.phase }, { on := 1, ground := Go.Ground.phase }, { on := 2, ground := (Go.Ground.textOnly Go.Departure.lateStores) }, { on := 3, ground := Go.Ground.phase }]) (gd := none) (t := 39) (x := (Go.Operand.tmp 7)) (y := (Go.Operand.tmp 65)) (v := .agg #[.int .i64 m, .slice B M.length c2]) HS 2 rfl (0) [.int .i64 m, .slice B M.length c2] (by kernel_rfl) (by kernel_rfl) (by kernel_rfl) (by kernel_rfl) (one_ (by kernel_rfl)) (Nat.le_of_ble_eq_true rfl)
              replace HK := HK.trans hk_ (fun _ h_ => .inl (.inl (blk_own h_)))
              refine t_s (n := 1) 4 rfl (by kernel_rfl) (by kernel_rfl) hrun_ HK ?_
              clear hk_ hrun_
              replace HS : St W M_ W55 [row A L.length c (ci .i64 L) 3 1, row B M.length c2 (ci .i64 M) 3 1, blk g9 [.int .i64 m, .slice B M.length c2] 39, blk g7 [.int .i64 n, .slice A L.length c] 39, blk g5 [.int .i64 kd, .int .i64 i] 43, blk g3 [.int .i64 m, .slice B M.length c2] 39, blk g1 [.int .i64 n, .slice A L.length c] 39] := H_
              clear H_
              refine t_q (n := 0) 5 (.bool false) rfl (by kernel_rfl) (by kernel_rfl) (fun _ _ _ h => h) (fun w' hk => (by kernel_rfl)) HK ?_
              refine t_done (by kernel_rfl) ?_
              clear HV HK
              refine x_then ?_
              refine wp_ret ?_
              refine ret_ (.tuple #[.agg #[.int .i64 n, .slice A L.length c], .agg #[.int .i64 m, .slice B M.length c2], .bool false]) (res3 rfl (oneRes_agg (p := ⟨g7, 0, none⟩) [.int .i64 n, .slice A L.length c] (by kernel_rfl) (by kernel_rfl) (by kernel_rfl) (by kernel_rfl) (HS.cellsN (i := 3) rfl)) (oneRes_agg (p := ⟨g9, 0, none⟩) [.int .i64 m, .slice B M.length c2] (by kernel_rfl) (by kernel_rfl) (by kernel_rfl) (by kernel_rfl) (HS.cellsN (i := 2) rfl)) (oneRes_t (by kernel_rfl))) ?_
              replace HS : St W M_ W55 [row A L.length c (ci .i64 L) 3 1, row B M.length c2 (ci .i64 M) 3 1] := St.tail (F := [blk g9 [.int .i64 m, .slice B M.length c2] 39, blk g7 [.int .i64 n, .slice A L.length c] 39, blk g5 [.int .i64 kd, .int .i64 i] 43, blk g3 [.int .i64 m, .slice B M.length c2] 39, blk g1 [.int .i64 n, .slice A L.length c] 39]) (HS.perm (perm_ [2, 3, 4, 5, 6, 0, 1] (by kernel_rfl) rfl))
              have esL : sL n m kd i L M = L := by unfold sL; rw [if_neg (show ¬ kd = 0 by omega), if_neg (show ¬ kd = 1 by omega), if_pos (show kd = 4 by omega), if_neg (show ¬ n = m by omega)]
              have esM : sM n m kd i L M = M := by unfold sM; rw [if_neg (show ¬ kd = 2 by omega), if_neg (show ¬ kd = 3 by omega), if_neg (show ¬ kd = 5 by omega)]
              have esB : sB n m kd i L M = false := by unfold sB; rw [if_neg (show ¬ kd = 0 by omega), if_neg (show ¬ kd = 1 by omega), if_neg (show ¬ kd = 2 by omega), if_neg (show ¬ kd = 3 by omega), if_pos (show kd = 4 by omega), if_neg (show ¬ n = m by omega)]
              exact ⟨_, _, _, _, by rw [esL, esM, esB], by rw [esL, esM]; exact HS⟩
          · skip
            refine ql (.bool false) (by kernel_rfl) (R_beq (b := (kd == (4 : Int))) (by kernel_rfl) (beq_f (hc43))) ?_
            refine ql (.bool false) (by kernel_rfl) (by kernel_rfl) ?_
            refine wpList_nil ?_
            refine x_then ?_
            refine wp_cond_false (by kernel_rfl) ?_
            refine wp_seq ?_
            refine wp_region_lit ?_
            by_cases hc56 : kd = (5 : Int)
            · skip
              refine ql (.bool true) (by kernel_rfl) (R_beq (b := (kd == (5 : Int))) (by kernel_rfl) (beq_t (hc56))) ?_
              refine ql (.bool true) (by kernel_rfl) (by kernel_rfl) ?_
              refine wpList_nil ?_
              refine x_then ?_
              refine wp_cond_true (by kernel_rfl) ?_
              refine wp_region_lit ?_
              refine ql (.agg #[.int .i64 m, .slice B M.length c2]) (by kernel_rfl) (R_loadN (p := ⟨g3, 0, none⟩) [.int .i64 m, .slice B M.length c2] (by kernel_rfl) (by kernel_rfl) (by kernel_rfl) (by kernel_rfl) (two_at (HS.cell (i := 3) (j := 0) rfl rfl) (HS.cell (i := 3) (j := 1) rfl rfl))) ?_
              refine ql (.agg #[.int .i64 n, .slice A L.length c]) (by kernel_rfl) (R_loadN (p := ⟨g1, 0, none⟩) [.int .i64 n, .slice A L.length c] (by kernel_rfl) (by kernel_rfl) (by kernel_rfl) (by kernel_rfl) (two_at (HS.cell (i := 4) (j := 0) rfl rfl) (HS.cell (i := 4) (j := 1) rfl rfl))) ?_
              refine qc (f := 31) (args := #[.agg #[.int .i64 m, .slice B M.length c2], .agg #[.int .i64 n, .slice A L.length c]]) (by kernel_rfl) (R_call #[.agg #[.int .i64 m, .slice B M.length c2], .agg #[.int .i64 n, .slice A L.length c]] Tryd.func31 (by kernel_rfl) (by kernel_rfl) (by kernel_rfl)) ?_
              replace HS : St W M_ W10 [row B M.length c2 (ci .i64 M) 3 1, row A L.length c (ci .i64 L) 3 1, blk g9 [.int .i64 0, .slice none 0 0] 39, blk g7 [.int .i64 0, .slice none 0 0] 39, blk g5 [.int .i64 kd, .int .i64 i] 43, blk g3 [.int .i64 m, .slice B M.length c2] 39, blk g1 [.int .i64 n, .slice A L.length c] 39] := HS.perm (perm_ [6, 5, 0, 1, 2, 3, 4] (by kernel_rfl) rfl)
              by_cases hnm0 : n = m
              · skip
                refine (r3or_e2 B c2 M m A c L n _ _ (St.focus (F := [row B M.length c2 (ci .i64 M) 3 1, row A L.length c (ci .i64 L) 3 1]) HS) (by omega) (by omega) (by omega) hsL hlL).mono ?_
                rintro e W59 ⟨A57, c58, rfl, H_⟩
                refine ⟨_, rfl, ?_⟩
                replace HS : St W M_ W59 [row A57 ((uni M L).length) c58 (ci .i64 (uni M L)) 3 1, row A L.length c (ci .i64 L) 3 1, blk g9 [.int .i64 0, .slice none 0 0] 39, blk g7 [.int .i64 0, .slice none 0 0] 39, blk g5 [.int .i64 kd, .int .i64 i] 43, blk g3 [.int .i64 m, .slice B M.length c2] 39, blk g1 [.int .i64 n, .slice A L.length c] 39] := HS.join (F := [row B M.length c2 (ci .i64 M) 3 1, row A L.length c (ci .i64 L) 3 1]) (G := [row A57 ((uni M L).length) c58 (ci .i64 (uni M L)) 3 1, row A L.length c (ci .i64 L) 3 1]) H_
                clear H_
                refine ql (.tuple #[.agg #[.int .i64 m, .slice A57 ((uni M L).length) c58], .bool (newB M L)]) (by kernel_rfl) (by kernel_rfl) ?_
                refine ql (.agg #[.int .i64 m, .slice A57 ((uni M L).length) c58]) (by kernel_rfl) (by kernel_rfl) ?_
                refine ql (.bool (newB M L)) (by kernel_rfl) (by kernel_rfl) ?_
                refine ks (v := .agg #[.int .i64 m, .slice A57 ((uni M L).length) c58]) HS 5 rfl (0) [.int .i64 m, .slice A57 ((uni M L).length) c58] (by kernel_rfl) (by kernel_rfl) (by kernel_rfl) (by kernel_rfl) (by kernel_rfl) (one_ (by kernel_rfl)) (Nat.le_of_ble_eq_true rfl) rfl ?_
                intro W60 H_
                replace HS : St W M_ W60 [row A57 ((uni M L).length) c58 (ci .i64 (uni M L)) 3 1, row A L.length c (ci .i64 L) 3 1, blk g9 [.int .i64 0, .slice none 0 0] 39, blk g7 [.int .i64 0, .slice none 0 0] 39, blk g5 [.int .i64 kd, .int .i64 i] 43, blk g3 [.int .i64 m, .slice A57 ((uni M L).length) c58] 39, blk g1 [.int .i64 n, .slice A L.length c] 39] := H_
                clear H_
                refine ql (.bool (newB M L)) (by kernel_rfl) (by kernel_rfl) ?_
                refine wpList_nil ?_
                refine x_inb ?_
                refine x_then ?_
                refine wp_seq ?_
                refine t_start HS (fun k_ => (blk g9 [.int .i64 0, .slice none 0 0] 39).own k_ ∨ (blk g7 [.int .i64 0, .slice none 0 0] 39).own k_) 6 (by kernel_rfl) rfl ?_
                intro W61 H_ HD_
                clear HD_
                replace HS : St W M_ W61 [row A57 ((uni M L).length) c58 (ci .i64 (uni M L)) 3 1, row A L.length c (ci .i64 L) 3 1, blk g9 [.int .i64 0, .slice none 0 0] 39, blk g7 [.int .i64 0, .slice none 0 0] 39, blk g5 [.int .i64 kd, .int .i64 i] 43, blk g3 [.int .i64 m, .slice A57 ((uni M L).length) c58] 39, blk g1 [.int .i64 n, .slice A L.length c] 39] := H_
                clear H_
                have HV := HS
                have HK := Kpt.refl (fun k_ => (blk g9 [.int .i64 0, .slice none 0 0] 39).own k_ ∨ (blk g7 [.int .i64 0, .slice none 0 0] 39).own k_) W61
                refine t_q (n := 5) 0 (.agg #[.int .i64 n, .slice A L.length c]) rfl (by kernel_rfl) (by kernel_rfl) (fun _ _ _ h => h) (fun w' hk => (R_loadN (p := ⟨g1, 0, none⟩) [.int .i64 n, .slice A L.length c] (by kernel_rfl) (by kernel_rfl) (by kernel_rfl) (by kernel_rfl) (two_at (hk.cellN (fun h_ => h_.elim (HV.sepB (a := 6) (b := 2) (by decide) rfl rfl) (HV.sepB (a := 6) (b := 3) (by decide) rfl rfl)) (HV.cell (i := 6) (j := 0) rfl rfl)) (hk.cellN (fun h_ => h_.elim (HV.sepB (a := 6) (b := 2) (by decide) rfl rfl) (HV.sepB (a := 6) (b := 3) (by decide) rfl rfl)) (HV.cell (i := 6) (j := 1) rfl rfl))))) HK ?_
                refine t_q (n := 4) 1 (.agg #[.int .i64 m, .slice A57 ((uni M L).length) c58]) rfl (by kernel_rfl) (by kernel_rfl) (fun _ _ _ h => h) (fun w' hk => (R_loadN (p := ⟨g3, 0, none⟩) [.int .i64 m, .slice A57 ((uni M L).length) c58] (by kernel_rfl) (by kernel_rfl) (by kernel_rfl) (by kernel_rfl) (two_at (hk.cellN (fun h_ => h_.elim (HV.sepB (a := 5) (b := 2) (by decide) rfl rfl) (HV.sepB (a := 5) (b := 3) (by decide) rfl rfl)) (HV.cell (i := 5) (j := 0) rfl rfl)) (hk.cellN (fun h_ => h_.elim (HV.sepB (a := 5) (b := 2) (by decide) rfl rfl) (HV.sepB (a := 5) (b := 3) (by decide) rfl rfl)) (HV.cell (i := 5) (j := 1) rfl rfl))))) HK ?_
                refine t_q (n := 3) 2 (.bool (newB M L)) rfl (by kernel_rfl) (by kernel_rfl) (fun _ _ _ h => h) (fun w' hk => (by kernel_rfl)) HK ?_
                obtain ⟨W62, hrun_, H_, hk_⟩ := ex_ks (P := Tryd.prog) (ty := 0) (ps := "ref.go:105") (af := #[{ on := 0, ground := Go.Ground.data }, { on := 0, ground := Go.Ground.phase }, { on := 1, ground := (Go.Ground.textOnly Go.Departure.lateStores) }, { on := 2, ground := (Go.Ground.textOnly Go.Departure.lateStores) }]) (gd := none) (t := 39) (x := (Go.Operand.tmp 6)) (y := (Go.Operand.tmp 64)) (v := .agg #[.int .i64 n, .slice A L.length c]) HS 3 rfl (0) [.int .i64 n, .slice A L.length c] (by kernel_rfl) (by kernel_rfl) (by kernel_rfl) (by kernel_rfl) (one_ (by kernel_rfl)) (Nat.le_of_ble_eq_true rfl)
                replace HK := HK.trans hk_ (fun _ h_ => .inl (.inr (blk_own h_)))
                refine t_s (n := 2) 3 rfl (by kernel_rfl) (by kernel_rfl) hrun_ HK ?_
                clear hk_ hrun_
                replace HS : St W M_ W62 [row A57 ((uni M L).length) c58 (ci .i64 (uni M L)) 3 1, row A L.length c (ci .i64 L) 3 1, blk g9 [.int .i64 0, .slice none 0 0] 39, blk g7 [.int .i64 n, .slice A L.length c] 39, blk g5 [.int .i64 kd, .int .i64 i] 43, blk g3 [.int .i64 m, .slice A57 ((uni M L).length) c58] 39, blk g1 [.int .i64 n, .slice A L.length c] 39] := H_
                clear H_
                obtain ⟨W63, hrun_, H_, hk_⟩ := ex_ks (P := Tryd.prog) (ty := 0) (ps := "ref.go:105") (af := #[{ on := 1, ground := Go.Ground.data }, { on := 3, ground := Go.Ground.chain }, { on := 0, ground := Go.Ground.phase }, { on := 1, ground := Go.Ground.phase }, { on := 2, ground := (Go.Ground.textOnly Go.Departure.lateStores) }, { on := 3, ground := Go.Ground.phase }]) (gd := none) (t := 39) (x := (Go.Operand.tmp 7)) (y := (Go.Operand.tmp 65)) (v := .agg #[.int .i64 m, .slice A57 ((uni M L).length) c58]) HS 2 rfl (0) [.int .i64 m, .slice A57 ((uni M L).length) c58] (by kernel_rfl) (by kernel_rfl) (by kernel_rfl) (by kernel_rfl) (one_ (by kernel_rfl)) (Nat.le_of_ble_eq_true rfl)
                replace HK := HK.trans hk_ (fun _ h_ => .inl (.inl (blk_own h_)))
                refine t_s (n := 1) 4 rfl (by kernel_rfl) (by kernel_rfl) hrun_ HK ?_
                clear hk_ hrun_
                replace HS : St W M_ W63 [row A57 ((uni M L).length) c58 (ci .i64 (uni M L)) 3 1, row A L.length c (ci .i64 L) 3 1, blk g9 [.int .i64 m, .slice A57 ((uni M L).length) c58] 39, blk g7 [.int .i64 n, .slice A L.length c] 39, blk g5 [.int .i64 kd, .int .i64 i] 43, blk g3 [.int .i64 m, .slice A57 ((uni M L).length) c58] 39, blk g1 [.int .i64 n, .slice A L.length c] 39] := H_
                clear H_
                refine t_q (n := 0) 5 (.bool (newB M L)) rfl (by kernel_rfl) (by kernel_rfl) (fun _ _ _ h => h) (fun w' hk => (by kernel_rfl)) HK ?_
                refine t_done (by kernel_rfl) ?_
                clear HV HK
                refine x_then ?_
                refine wp_ret ?_
                refine ret_ (.tuple #[.agg #[.int .i64 n, .slice A L.length c], .agg #[.int .i64 m, .slice A57 ((uni M L).length) c58], .bool (newB M L)]) (res3 rfl (oneRes_agg (p := ⟨g7, 0, none⟩) [.int .i64 n, .slice A L.length c] (by kernel_rfl) (by kernel_rfl) (by kernel_rfl) (by kernel_rfl) (HS.cellsN (i := 3) rfl)) (oneRes_agg (p := ⟨g9, 0, none⟩) [.int .i64 m, .slice A57 ((uni M L).length) c58] (by kernel_rfl) (by kernel_rfl) (by kernel_rfl) (by kernel_rfl) (HS.cellsN (i := 2) rfl)) (oneRes_t (by kernel_rfl))) ?_
                replace HS : St W M_ W63 [row A L.length c (ci .i64 L) 3 1, row A57 ((uni M L).length) c58 (ci .i64 (uni M L)) 3 1] := St.tail (F := [blk g9 [.int .i64 m, .slice A57 ((uni M L).length) c58] 39, blk g7 [.int .i64 n, .slice A L.length c] 39, blk g5 [.int .i64 kd, .int .i64 i] 43, blk g3 [.int .i64 m, .slice A57 ((uni M L).length) c58] 39, blk g1 [.int .i64 n, .slice A L.length c] 39]) (HS.perm (perm_ [2, 3, 4, 5, 6, 1, 0] (by kernel_rfl) rfl))
                have esL : sL n m kd i L M = L := by unfold sL; rw [if_neg (show ¬ kd = 0 by omega), if_neg (show ¬ kd = 1 by omega), if_neg (show ¬ kd = 4 by omega)]
                have esM : sM n m kd i L M = uni M L := by unfold sM; rw [if_neg (show ¬ kd = 2 by omega), if_neg (show ¬ kd = 3 by omega), if_pos (show kd = 5 by omega), if_pos (show n = m by omega)]
                have esB : sB n m kd i L M = newB M L := by unfold sB; rw [if_neg (show ¬ kd = 0 by omega), if_neg (show ¬ kd = 1 by omega), if_neg (show ¬ kd = 2 by omega), if_neg (show ¬ kd = 3 by omega), if_neg (show ¬ kd = 4 by omega), if_pos (show kd = 5 by omega), if_pos (show n = m by omega)]
                exact ⟨_, _, _, _, by rw [esL, esM, esB], by rw [esL, esM]; exact HS⟩
              · skip
                refine (r3or_ne B c2 M m A c L n _ _ (St.focus (F := [row B M.length c2 (ci .i64 M) 3 1, row A L.length c (ci .i64 L) 3 1]) HS) (by omega) (by omega) (by omega)).mono ?_
                rintro e W64 ⟨rfl, H_⟩
                refine ⟨_, rfl, ?_⟩
                replace HS : St W M_ W64 [row B M.length c2 (ci .i64 M) 3 1, row A L.length c (ci .i64 L) 3 1, blk g9 [.int .i64 0, .slice none 0 0] 39, blk g7 [.int .i64 0, .slice none 0 0] 39, blk g5 [.int .i64 kd, .int .i64 i] 43, blk g3 [.int .i64 m, .slice B M.length c2] 39, blk g1 [.int .i64 n, .slice A L.length c] 39] := HS.join (F := [row B M.length c2 (ci .i64 M) 3 1, row A L.length c (ci .i64 L) 3 1]) (G := [row B M.length c2 (ci .i64 M) 3 1, row A L.length c (ci .i64 L) 3 1]) H_
                clear H_
                refine ql (.tuple #[.agg #[.int .i64 m, .slice B M.length c2], .bool false]) (by kernel_rfl) (by kernel_rfl) ?_
                refine ql (.agg #[.int .i64 m, .slice B M.length c2]) (by kernel_rfl) (by kernel_rfl) ?_
                refine ql (.bool false) (by kernel_rfl) (by kernel_rfl) ?_
                refine ks (v := .agg #[.int .i64 m, .slice B M.length c2]) HS 5 rfl (0) [.int .i64 m, .slice B M.length c2] (by kernel_rfl) (by kernel_rfl) (by kernel_rfl) (by kernel_rfl) (by kernel_rfl) (one_ (by kernel_rfl)) (Nat.le_of_ble_eq_true rfl) rfl ?_
                intro W65 H_
                replace HS : St W M_ W65 [row B M.length c2 (ci .i64 M) 3 1, row A L.length c (ci .i64 L) 3 1, blk g9 [.int .i64 0, .slice none 0 0] 39, blk g7 [.int .i64 0, .slice none 0 0] 39, blk g5 [.int .i64 kd, .int .i64 i] 43, blk g3 [.int .i64 m, .slice B M.length c2] 39, blk g1 [.int .i64 n, .slice A L.length c] 39] := H_
                clear H_
                refine ql (.bool false) (by kernel_rfl) (by kernel_rfl) ?_
                refine wpList_nil ?_
                refine x_inb ?_
                refine x_then ?_
                refine wp_seq ?_
                refine t_start HS (fun k_ => (blk g9 [.int .i64 0, .slice none 0 0] 39).own k_ ∨ (blk g7 [.int .i64 0, .slice none 0 0] 39).own k_) 6 (by kernel_rfl) rfl ?_
                intro W66 H_ HD_
                clear HD_
                replace HS : St W M_ W66 [row B M.length c2 (ci .i64 M) 3 1, row A L.length c (ci .i64 L) 3 1, blk g9 [.int .i64 0, .slice none 0 0] 39, blk g7 [.int .i64 0, .slice none 0 0] 39, blk g5 [.int .i64 kd, .int .i64 i] 43, blk g3 [.int .i64 m, .slice B M.length c2] 39, blk g1 [.int .i64 n, .slice A L.length c] 39] := H_
                clear H_
                have HV := HS
                have HK := Kpt.refl (fun k_ => (blk g9 [.int .i64 0, .slice none 0 0] 39).own k_ ∨ (blk g7 [.int .i64 0, .slice none 0 0] 39).own k_) W66
                refine t_q (n := 5) 0 (.agg #[.int .i64 n, .slice A L.length c]) rfl (by kernel_rfl) (by kernel_rfl) (fun _ _ _ h => h) (fun w' hk => (R_loadN (p := ⟨g1, 0, none⟩) [.int .i64 n, .slice A L.length c] (by kernel_rfl) (by kernel_rfl) (by kernel_rfl) (by kernel_rfl) (two_at (hk.cellN (fun h_ => h_.elim (HV.sepB (a := 6) (b := 2) (by decide) rfl rfl) (HV.sepB (a := 6) (b := 3) (by decide) rfl rfl)) (HV.cell (i := 6) (j := 0) rfl rfl)) (hk.cellN (fun h_ => h_.elim (HV.sepB (a := 6) (b := 2) (by decide) rfl rfl) (HV.sepB (a := 6) (b := 3) (by decide) rfl rfl)) (HV.cell (i := 6) (j := 1) rfl rfl))))) HK ?_
                refine t_q (n := 4) 1 (.agg #[.int .i64 m, .slice B M.length c2]) rfl (by kernel_rfl) (by kernel_rfl) (fun _ _ _ h => h) (fun w' hk => (R_loadN (p := ⟨g3, 0, none⟩) [.int .i64 m, .slice B M.length c2] (by kernel_rfl) (by kernel_rfl) (by kernel_rfl) (by kernel_rfl) (two_at (hk.cellN (fun h_ => h_.elim (HV.sepB (a := 5) (b := 2) (by decide) rfl rfl) (HV.sepB (a := 5) (b := 3) (by decide) rfl rfl)) (HV.cell (i := 5) (j := 0) rfl rfl)) (hk.cellN (fun h_ => h_.elim (HV.sepB (a := 5) (b := 2) (by decide) rfl rfl) (HV.sepB (a := 5) (b := 3) (by decide) rfl rfl)) (HV.cell (i := 5) (j := 1) rfl rfl))))) HK ?_
                refine t_q (n := 3) 2 (.bool false) rfl (by kernel_rfl) (by kernel_rfl) (fun _ _ _ h => h) (fun w' hk => (by kernel_rfl)) HK ?_
                obtain ⟨W67, hrun_, H_, hk_⟩ := ex_ks (P := Tryd.prog) (ty := 0) (ps := "ref.go:105") (af := #[{ on := 0, ground := Go.Ground.data }, { on := 0, ground := Go.Ground.phase }, { on := 1, ground := (Go.Ground.textOnly Go.Departure.lateStores) }, { on := 2, ground := (Go.Ground.textOnly Go.Departure.lateStores) }]) (gd := none) (t := 39) (x := (Go.Operand.tmp 6)) (y := (Go.Operand.tmp 64)) (v := .agg #[.int .i64 n, .slice A L.length c]) HS 3 rfl (0) [.int .i64 n, .slice A L.length c] (by kernel_rfl) (by kernel_rfl) (by kernel_rfl) (by kernel_rfl) (one_ (by kernel_rfl)) (Nat.le_of_ble_eq_true rfl)
                replace HK := HK.trans hk_ (fun _ h_ => .inl (.inr (blk_own h_)))
                refine t_s (n := 2) 3 rfl (by kernel_rfl) (by kernel_rfl) hrun_ HK ?_
                clear hk_ hrun_
                replace HS : St W M_ W67 [row B M.length c2 (ci .i64 M) 3 1, row A L.length c (ci .i64 L) 3 1, blk g9 [.int .i64 0, .slice none 0 0] 39, blk g7 [.int .i64 n, .slice A L.length c] 39, blk g5 [.int .i64 kd, .int .i64 i] 43, blk g3 [.int .i64 m, .slice B M.length c2] 39, blk g1 [.int .i64 n, .slice A L.length c] 39] := H_
                clear H_
                obtain ⟨W68, hrun_, H_, hk_⟩ := ex_ks (P := Tryd.prog) (ty := 0) (ps := "ref.go:105") (af := #[{ on := 1, ground := Go.Ground.data }, { on := 3, ground := Go.Ground.chain }, { on := 0, ground := Go.Ground.phase }, { on := 1, ground := Go.Ground.phase }, { on := 2, ground := (Go.Ground.textOnly Go.Departure.lateStores) }, { on := 3, ground := Go.Ground.phase }]) (gd := none) (t := 39) (x := (Go.Operand.tmp 7)) (y := (Go.Operand.tmp 65)) (v := .agg #[.int .i64 m, .slice B M.length c2]) HS 2 rfl (0) [.int .i64 m, .slice B M.length c2] (by kernel_rfl) (by kernel_rfl) (by kernel_rfl) (by kernel_rfl) (one_ (by kernel_rfl)) (Nat.le_of_ble_eq_true rfl)
                replace HK := HK.trans hk_ (fun _ h_ => .inl (.inl (blk_own h_)))
                refine t_s (n := 1) 4 rfl (by kernel_rfl) (by kernel_rfl) hrun_ HK ?_
                clear hk_ hrun_
                replace HS : St W M_ W68 [row B M.length c2 (ci .i64 M) 3 1, row A L.length c (ci .i64 L) 3 1, blk g9 [.int .i64 m, .slice B M.length c2] 39, blk g7 [.int .i64 n, .slice A L.length c] 39, blk g5 [.int .i64 kd, .int .i64 i] 43, blk g3 [.int .i64 m, .slice B M.length c2] 39, blk g1 [.int .i64 n, .slice A L.length c] 39] := H_
                clear H_
                refine t_q (n := 0) 5 (.bool false) rfl (by kernel_rfl) (by kernel_rfl) (fun _ _ _ h => h) (fun w' hk => (by kernel_rfl)) HK ?_
                refine t_done (by kernel_rfl) ?_
                clear HV HK
                refine x_then ?_
                refine wp_ret ?_
                refine ret_ (.tuple #[.agg #[.int .i64 n, .slice A L.length c], .agg #[.int .i64 m, .slice B M.length c2], .bool false]) (res3 rfl (oneRes_agg (p := ⟨g7, 0, none⟩) [.int .i64 n, .slice A L.length c] (by kernel_rfl) (by kernel_rfl) (by kernel_rfl) (by kernel_rfl) (HS.cellsN (i := 3) rfl)) (oneRes_agg (p := ⟨g9, 0, none⟩) [.int .i64 m, .slice B M.length c2] (by kernel_rfl) (by kernel_rfl) (by kernel_rfl) (by kernel_rfl) (HS.cellsN (i := 2) rfl)) (oneRes_t (by kernel_rfl))) ?_
                replace HS : St W M_ W68 [row A L.length c (ci .i64 L) 3 1, row B M.length c2 (ci .i64 M) 3 1] := St.tail (F := [blk g9 [.int .i64 m, .slice B M.length c2] 39, blk g7 [.int .i64 n, .slice A L.length c] 39, blk g5 [.int .i64 kd, .int .i64 i] 43, blk g3 [.int .i64 m, .slice B M.length c2] 39, blk g1 [.int .i64 n, .slice A L.length c] 39]) (HS.perm (perm_ [2, 3, 4, 5, 6, 1, 0] (by kernel_rfl) rfl))
                have esL : sL n m kd i L M = L := by unfold sL; rw [if_neg (show ¬ kd = 0 by omega), if_neg (show ¬ kd = 1 by omega), if_neg (show ¬ kd = 4 by omega)]
                have esM : sM n m kd i L M = M := by unfold sM; rw [if_neg (show ¬ kd = 2 by omega), if_neg (show ¬ kd = 3 by omega), if_pos (show kd = 5 by omega), if_neg (show ¬ n = m by omega)]
                have esB : sB n m kd i L M = false := by unfold sB; rw [if_neg (show ¬ kd = 0 by omega), if_neg (show ¬ kd = 1 by omega), if_neg (show ¬ kd = 2 by omega), if_neg (show ¬ kd = 3 by omega), if_neg (show ¬ kd = 4 by omega), if_pos (show kd = 5 by omega), if_neg (show ¬ n = m by omega)]
                exact ⟨_, _, _, _, by rw [esL, esM, esB], by rw [esL, esM]; exact HS⟩
            · skip
              refine ql (.bool false) (by kernel_rfl) (R_beq (b := (kd == (5 : Int))) (by kernel_rfl) (beq_f (hc56))) ?_
              refine ql (.bool false) (by kernel_rfl) (by kernel_rfl) ?_
              refine wpList_nil ?_
              refine x_then ?_
              refine wp_cond_false (by kernel_rfl) ?_
              refine wp_skip ?_
              refine x_inb ?_
              refine x_then ?_
              refine wp_seq ?_
              refine t_start HS (fun k_ => (blk g9 [.int .i64 0, .slice none 0 0] 39).own k_ ∨ (blk g7 [.int .i64 0, .slice none 0 0] 39).own k_) 6 (by kernel_rfl) rfl ?_
              intro W69 H_ HD_
              clear HD_
              replace HS : St W M_ W69 [blk g9 [.int .i64 0, .slice none 0 0] 39, blk g7 [.int .i64 0, .slice none 0 0] 39, blk g5 [.int .i64 kd, .int .i64 i] 43, blk g3 [.int .i64 m, .slice B M.length c2] 39, blk g1 [.int .i64 n, .slice A L.length c] 39, row A L.length c (ci .i64 L) 3 1, row B M.length c2 (ci .i64 M) 3 1] := H_
              clear H_
              have HV := HS
              have HK := Kpt.refl (fun k_ => (blk g9 [.int .i64 0, .slice none 0 0] 39).own k_ ∨ (blk g7 [.int .i64 0, .slice none 0 0] 39).own k_) W69
              refine t_q (n := 5) 0 (.agg #[.int .i64 n, .slice A L.length c]) rfl (by kernel_rfl) (by kernel_rfl) (fun _ _ _ h => h) (fun w' hk => (R_loadN (p := ⟨g1, 0, none⟩) [.int .i64 n, .slice A L.length c] (by kernel_rfl) (by kernel_rfl) (by kernel_rfl) (by kernel_rfl) (two_at (hk.cellN (fun h_ => h_.elim (HV.sepB (a := 4) (b := 0) (by decide) rfl rfl) (HV.sepB (a := 4) (b := 1) (by decide) rfl rfl)) (HV.cell (i := 4) (j := 0) rfl rfl)) (hk.cellN (fun h_ => h_.elim (HV.sepB (a := 4) (b := 0) (by decide) rfl rfl) (HV.sepB (a := 4) (b := 1) (by decide) rfl rfl)) (HV.cell (i := 4) (j := 1) rfl rfl))))) HK ?_
              refine t_q (n := 4) 1 (.agg #[.int .i64 m, .slice B M.length c2]) rfl (by kernel_rfl) (by kernel_rfl) (fun _ _ _ h => h) (fun w' hk => (R_loadN (p := ⟨g3, 0, none⟩) [.int .i64 m, .slice B M.length c2] (by kernel_rfl) (by kernel_rfl) (by kernel_rfl) (by kernel_rfl) (two_at (hk.cellN (fun h_ => h_.elim (HV.sepB (a := 3) (b := 0) (by decide) rfl rfl) (HV.sepB (a := 3) (b := 1) (by decide) rfl rfl)) (HV.cell (i := 3) (j := 0) rfl rfl)) (hk.cellN (fun h_ => h_.elim (HV.sepB (a := 3) (b := 0) (by decide) rfl rfl) (HV.sepB (a := 3) (b := 1) (by decide) rfl rfl)) (HV.cell (i := 3) (j := 1) rfl rfl))))) HK ?_
              refine t_q (n := 3) 2 (.bool false) rfl (by kernel_rfl) (by kernel_rfl) (fun _ _ _ h => h) (fun w' hk => (by kernel_rfl)) HK ?_
              obtain ⟨W70, hrun_, H_, hk_⟩ := ex_ks (P := Tryd.prog) (ty := 0) (ps := "ref.go:105") (af := #[{ on := 0, ground := Go.Ground.data }, { on := 0, ground := Go.Ground.phase }, { on := 1, ground := (Go.Ground.textOnly Go.Departure.lateStores) }, { on := 2, ground := (Go.Ground.textOnly Go.Departure.lateStores) }]) (gd := none) (t := 39) (x := (Go.Operand.tmp 6)) (y := (Go.Operand.tmp 64)) (v := .agg #[.int .i64 n, .slice A L.length c]) HS 1 rfl (0) [.int .i64 n, .slice A L.length c] (by kernel_rfl) (by kernel_rfl) (by kernel_rfl) (by kernel_rfl) (one_ (by kernel_rfl)) (Nat.le_of_ble_eq_true rfl)
              replace HK := HK.trans hk_ (fun _ h_ => .inl (.inr (blk_own h_)))
              refine t_s (n := 2) 3 rfl (by kernel_rfl) (by kernel_rfl) hrun_ HK ?_
              clear hk_ hrun_
              replace HS : St W M_ W70 [blk g9 [.int .i64 0, .slice none 0 0] 39, blk g7 [.int .i64 n, .slice A L.length c] 39, blk g5 [.int .i64 kd, .int .i64 i] 43, blk g3 [.int .i64 m, .slice B M.length c2] 39, blk g1 [.int .i64 n, .slice A L.length c] 39, row A L.length c (ci .i64 L) 3 1, row B M.length c2 (ci .i64 M) 3 1] := H_
              clear H_
              obtain ⟨W71, hrun_, H_, hk_⟩ := ex_ks (P := Tryd.prog) (ty := 0) (ps := "ref.go:105") (af := #[{ on := 1, ground := Go.Ground.data }, { on := 3, ground := Go.Ground.chain }, { on := 0, ground := Go.Ground.phase }, { on := 1, ground := Go.Ground.phase }, { on := 2, ground := (Go.Ground.textOnly Go.Departure.lateStores) }, { on := 3, ground := Go.Ground.phase }]) (gd := none) (t := 39) (x := (Go.Operand.tmp 7)) (y := (Go.Operand.tmp 65)) (v := .agg #[.int .i64 m, .slice B M.length c2]) HS 0 rfl (0) [.int .i64 m, .slice B M.length c2] (by kernel_rfl) (by kernel_rfl) (by kernel_rfl) (by kernel_rfl) (one_ (by kernel_rfl)) (Nat.le_of_ble_eq_true rfl)
              replace HK := HK.trans hk_ (fun _ h_ => .inl (.inl (blk_own h_)))
              refine t_s (n := 1) 4 rfl (by kernel_rfl) (by kernel_rfl) hrun_ HK ?_
              clear hk_ hrun_
              replace HS : St W M_ W71 [blk g9 [.int .i64 m, .slice B M.length c2] 39, blk g7 [.int .i64 n, .slice A L.length c] 39, blk g5 [.int .i64 kd, .int .i64 i] 43, blk g3 [.int .i64 m, .slice B M.length c2] 39, blk g1 [.int .i64 n, .slice A L.length c] 39, row A L.length c (ci .i64 L) 3 1, row B M.length c2 (ci .i64 M) 3 1] := H_
              clear H_
              refine t_q (n := 0) 5 (.bool false) rfl (by kernel_rfl) (by kernel_rfl) (fun _ _ _ h => h) (fun w' hk => (by kernel_rfl)) HK ?_
              refine t_done (by kernel_rfl) ?_
              clear HV HK
              refine x_then ?_
              refine wp_ret ?_
              refine ret_ (.tuple #[.agg #[.int .i64 n, .slice A L.length c], .agg #[.int .i64 m, .slice B M.length c2], .bool false]) (res3 rfl (oneRes_agg (p := ⟨g7, 0, none⟩) [.int .i64 n, .slice A L.length c] (by kernel_rfl) (by kernel_rfl) (by kernel_rfl) (by kernel_rfl) (HS.cellsN (i := 1) rfl)) (oneRes_agg (p := ⟨g9, 0, none⟩) [.int .i64 m, .slice B M.length c2] (by kernel_rfl) (by kernel_rfl) (by kernel_rfl) (by kernel_rfl) (HS.cellsN (i := 0) rfl)) (oneRes_t (by kernel_rfl))) ?_
              replace HS := HS.drop1
              replace HS := HS.drop1
              replace HS := HS.drop1
              replace HS := HS.drop1
              replace HS := HS.drop1
              have esL : sL n m kd i L M = L := by unfold sL; rw [if_neg (show ¬ kd = 0 by omega), if_neg (show ¬ kd = 1 by omega), if_neg (show ¬ kd = 4 by omega)]
              have esM : sM n m kd i L M = M := by unfold sM; rw [if_neg (show ¬ kd = 2 by omega), if_neg (show ¬ kd = 3 by omega), if_neg (show ¬ kd = 5 by omega)]
              have esB : sB n m kd i L M = false := by unfold sB; rw [if_neg (show ¬ kd = 0 by omega), if_neg (show ¬ kd = 1 by omega), if_neg (show ¬ kd = 2 by omega), if_neg (show ¬ kd = 3 by omega), if_neg (show ¬ kd = 4 by omega), if_neg (show ¬ kd = 5 by omega)]
              exact ⟨_, _, _, _, by rw [esL, esM, esB], by rw [esL, esM]; exact HS⟩


theorem dadd (g c : Nat) (A : Option Addr) (ws : List Int) (n : Int) (L : List Int) (i : Int) (W : World) (M : Nat → Prop) (HS : St W M W [blk g [.slice A ws.length c, .int .i64 n] 53, row A ws.length c (ci .u64 ws) 54 1]) (hR : Rep ws n L) (hn : n ≤ 1048576) : Calls Tryd.prog 8 #[.pointer (some ⟨g, 0, none⟩), .int .i64 i] W fun e W' => ∃ ws', e = .returned (.bool (addB n L i)) ∧ St W M W' [blk g [.slice A ws'.length c, .int .i64 n] 53, row A ws'.length c (ci .u64 ws') 54 1] ∧ Rep ws' n (addL n L i) := by
  by_cases h : 0 ≤ i ∧ i < n
  · by_cases hi : i ∈ L
    · have ha := addL_out (n := n) (.inr (.inr hi))
      refine (dadd_old g c A ws n L i W M HS hR hn hi).mono ?_
      rintro e W' ⟨rfl, H⟩
      exact ⟨ws, by rw [ha.2], H, by rw [ha.1]; exact hR⟩
    · have ha := addL_in h.1 h.2 hi
      refine (dadd_new g c A ws n L i W M HS hR hn h.1 h.2 hi).mono ?_
      rintro e W' ⟨ws', rfl, H, h2⟩
      exact ⟨ws', by rw [ha.2], H, by rw [ha.1]; exact h2⟩
  · have ha := addL_out (n := n) (i := i) (L := L) (by omega)
    refine (dadd_out g c A ws n L i W M HS hR hn (by omega)).mono ?_
    rintro e W' ⟨rfl, H⟩
    exact ⟨ws, by rw [ha.2], H, by rw [ha.1]; exact hR⟩
theorem ddel (g c : Nat) (A : Option Addr) (ws : List Int) (n : Int) (L : List Int) (i : Int) (W : World) (M : Nat → Prop) (HS : St W M W [blk g [.slice A ws.length c, .int .i64 n] 53, row A ws.length c (ci .u64 ws) 54 1]) (hR : Rep ws n L) (hn : n ≤ 1048576) : Calls Tryd.prog 13 #[.pointer (some ⟨g, 0, none⟩), .int .i64 i] W fun e W' => ∃ ws', e = .returned (.bool (delB L i)) ∧ St W M W' [blk g [.slice A ws'.length c, .int .i64 n] 53, row A ws'.length c (ci .u64 ws') 54 1] ∧ Rep ws' n (delL L i) := by
  by_cases hi : i ∈ L
  · refine (ddel_old g c A ws n L i W M HS hR hn hi).mono ?_
    rintro e W' ⟨ws', rfl, H, h2⟩
    exact ⟨ws', by unfold delB; rw [decide_eq_true hi], H, h2⟩
  · have ha : delL L i = L := List.filter_eq_self.2 (fun x hx => by simp; rintro rfl; exact hi hx)
    refine (ddel_new g c A ws n L i W M HS hR hn hi).mono ?_
    rintro e W' ⟨rfl, H⟩
    exact ⟨ws, by unfold delB; rw [decide_eq_false hi], H, by rw [ha]; exact hR⟩
theorem dhas (g c : Nat) (A : Option Addr) (ws : List Int) (n : Int) (L : List Int) (i : Int) (W : World) (hz0 : W.cell? ⟨g, 0, none⟩ = some (.slice A ws.length c)) (hz1 : W.cell? ⟨g, 1, none⟩ = some (.int .i64 n)) (hr : Rd W A (ci .u64 ws)) (hR : Rep ws n L) (hn : n ≤ 1048576) : Calls Tryd.prog 15 #[.pointer (some ⟨g, 0, none⟩), .int .i64 i] W fun e W' => e = .returned (.bool (decide (i ∈ L))) ∧ St W (owns []) W' [] := by
  by_cases hi : i ∈ L
  · rw [decide_eq_true hi]; exact dhas_t g c A ws n L i W hz0 hz1 hr hR hn hi
  · rw [decide_eq_false hi]; exact dhas_n g c A ws n L i W hz0 hz1 hr hR hn hi
theorem dor2 (g c : Nat) (A : Option Addr) (ws : List Int) (n : Int) (h c2 : Nat) (B : Option Addr) (vs : List Int) (m : Int) (L M : List Int) (W : World) (M_ : Nat → Prop) (HS : St W M_ W [blk g [.slice A ws.length c, .int .i64 n] 53, row A ws.length c (ci .u64 ws) 54 1, blk h [.slice B vs.length c2, .int .i64 m] 53, row B vs.length c2 (ci .u64 vs) 54 1]) (hR : Rep ws n L) (hM : Rep vs m M) (hn : n ≤ 1048576) : Calls Tryd.prog 11 #[.pointer (some ⟨g, 0, none⟩), .pointer (some ⟨h, 0, none⟩)] W fun e W' => ∃ ws', e = .returned (.bool (if n = m then newB L M else false)) ∧ St W M_ W' [blk g [.slice A ws'.length c, .int .i64 n] 53, row A ws'.length c (ci .u64 ws') 54 1, blk h [.slice B vs.length c2, .int .i64 m] 53, row B vs.length c2 (ci .u64 vs) 54 1] ∧ Rep ws' n (if n = m then uni L M else L) := by
  by_cases hnm : n = m
  · subst hnm
    rw [if_pos rfl, if_pos rfl]
    exact dor g c A ws n h c2 B vs L M W M_ HS hR hM hn
  · rw [if_neg hnm, if_neg hnm]
    refine (dor_ne g c A ws n h c2 B vs m W M_ HS hnm).mono ?_
    rintro e W' ⟨rfl, H⟩
    exact ⟨ws, rfl, H, hR⟩

set_option maxRecDepth 100000 in
set_option maxHeartbeats 1000000 in
theorem ddoes (g c : Nat) (A : Option Addr) (ws : List Int) (n : Int) (h c2 : Nat) (B : Option Addr) (vs : List Int) (m : Int) (L M : List Int) (kd i : Int) (W : World) (M_ : Nat → Prop) (HS : St W M_ W [blk g [.slice A ws.length c, .int .i64 n] 53, row A ws.length c (ci .u64 ws) 54 1, blk h [.slice B vs.length c2, .int .i64 m] 53, row B vs.length c2 (ci .u64 vs) 54 1]) (hR : Rep ws n L) (hn : n ≤ 1048576) (hM : Rep vs m M) (hm : m ≤ 1048576) : Calls Tryd.prog 17 #[.pointer (some ⟨g, 0, none⟩), .pointer (some ⟨h, 0, none⟩), .agg #[.int .i64 kd, .int .i64 i]] W fun e W' => ∃ ws' vs', e = .returned (.bool (sB n m kd i L M)) ∧ St W M_ W' [blk g [.slice A ws'.length c, .int .i64 n] 53, row A ws'.length c (ci .u64 ws') 54 1, blk h [.slice B vs'.length c2, .int .i64 m] 53, row B vs'.length c2 (ci .u64 vs') 54 1] ∧ Rep ws' n (sL n m kd i L M) ∧ Rep vs' m (sM n m kd i L M) := by
  refine calls_enter [.pointer (some ⟨g, 0, none⟩), .pointer (some ⟨h, 0, none⟩), .agg #[.int .i64 kd, .int .i64 i], undef, undef, undef, undef, undef, undef, undef, undef, undef, undef, undef, undef, undef, undef, undef, undef, undef, undef, undef, undef, undef, undef, undef, undef, undef, undef, undef, undef, undef, undef, undef, undef, undef, undef, undef, undef, undef, undef, undef, undef] Tryd.func17 rfl (by kernel_rfl) ?_
  refine wp_seq ?_
  refine wp_region_lit ?_
  refine kb HS [.int .i64 kd, .int .i64 i] 43 (fun g => .pointer (some ⟨g, 0, none⟩)) (by kernel_rfl) (by kernel_rfl) ?_
  intro g1 W2 H_
  replace HS : St W M_ W2 [blk g1 [.int .i64 kd, .int .i64 i] 43, blk g [.slice A ws.length c, .int .i64 n] 53, row A ws.length c (ci .u64 ws) 54 1, blk h [.slice B vs.length c2, .int .i64 m] 53, row B vs.length c2 (ci .u64 vs) 54 1] := H_
  clear H_
  refine ql (.bool false) (by kernel_rfl) (by kernel_rfl) ?_
  refine wpList_nil ?_
  refine x_then ?_
  refine wp_seq ?_
  refine wp_seq ?_
  refine wp_region_lit ?_
  refine ql (.pointer (some ⟨g1, 0, none⟩)) (by kernel_rfl) (by kernel_rfl) ?_
  refine ql (.int .i64 kd) (by kernel_rfl) (R_load (p := ⟨g1, 0, none⟩) (by kernel_rfl) (by kernel_rfl) (by kernel_rfl) (HS.cell (i := 0) (j := 0) rfl rfl)) ?_
  refine wpList_nil ?_
  refine x_then ?_
  refine wp_block ?_
  refine wp_seq ?_
  refine wp_region_lit ?_
  by_cases hc3 : kd = (0 : Int)
  · skip
    refine ql (.bool true) (by kernel_rfl) (R_beq (b := (kd == (0 : Int))) (by kernel_rfl) (beq_t (hc3))) ?_
    refine ql (.bool true) (by kernel_rfl) (by kernel_rfl) ?_
    refine wpList_nil ?_
    refine x_then ?_
    refine wp_cond_true (by kernel_rfl) ?_
    refine wp_seq ?_
    refine wp_region_lit ?_
    refine ql (.pointer (some ⟨g, 0, none⟩)) (by kernel_rfl) (by kernel_rfl) ?_
    refine ql (.pointer (some ⟨g1, 1, none⟩)) (by kernel_rfl) (by kernel_rfl) ?_
    refine ql (.int .i64 i) (by kernel_rfl) (R_load (p := ⟨g1, 1, none⟩) (by kernel_rfl) (by kernel_rfl) (by kernel_rfl) (HS.cell (i := 0) (j := 1) rfl rfl)) ?_
    refine qc (f := 8) (args := #[.pointer (some ⟨g, 0, none⟩), .int .i64 i]) (by kernel_rfl) (R_call #[.pointer (some ⟨g, 0, none⟩), .int .i64 i] Tryd.func8 (by kernel_rfl) (by kernel_rfl) (by kernel_rfl)) ?_
    replace HS : St W M_ W2 [blk g [.slice A ws.length c, .int .i64 n] 53, row A ws.length c (ci .u64 ws) 54 1, blk g1 [.int .i64 kd, .int .i64 i] 43, blk h [.slice B vs.length c2, .int .i64 m] 53, row B vs.length c2 (ci .u64 vs) 54 1] := HS.perm (perm_ [1, 2, 0, 3, 4] (by kernel_rfl) rfl)
    refine (dadd g c A ws n L i _ _ (St.focus (F := [blk g [.slice A ws.length c, .int .i64 n] 53, row A ws.length c (ci .u64 ws) 54 1]) HS) hR hn).mono ?_
    rintro e W6 ⟨ws4, rfl, H_, hR5⟩
    refine ⟨_, rfl, ?_⟩
    replace HS : St W M_ W6 [blk g [.slice A ws4.length c, .int .i64 n] 53, row A ws4.length c (ci .u64 ws4) 54 1, blk g1 [.int .i64 kd, .int .i64 i] 43, blk h [.slice B vs.length c2, .int .i64 m] 53, row B vs.length c2 (ci .u64 vs) 54 1] := HS.join (F := [blk g [.slice A ws.length c, .int .i64 n] 53, row A ws.length c (ci .u64 ws) 54 1]) (G := [blk g [.slice A ws4.length c, .int .i64 n] 53, row A ws4.length c (ci .u64 ws4) 54 1]) H_
    clear H_
    refine ql (.bool (addB n L i)) (by kernel_rfl) (by kernel_rfl) ?_
    refine wpList_nil ?_
    refine x_then ?_
    refine wp_ret ?_
    refine x_inbR ?_
    refine x_thenR ?_
    refine ret_ (.bool (addB n L i)) (by kernel_rfl) ?_
    replace HS : St W M_ W6 [blk g [.slice A ws4.length c, .int .i64 n] 53, row A ws4.length c (ci .u64 ws4) 54 1, blk h [.slice B vs.length c2, .int .i64 m] 53, row B vs.length c2 (ci .u64 vs) 54 1] := St.tail (F := [blk g1 [.int .i64 kd, .int .i64 i] 43]) (HS.perm (perm_ [2, 0, 1, 3, 4] (by kernel_rfl) rfl))
    have esL : sL n m kd i L M = (addL n L i) := by unfold sL; rw [if_pos (show kd = 0 by omega)]
    have esM : sM n m kd i L M = (M) := by unfold sM; rw [if_neg (show ¬ kd = 2 by omega), if_neg (show ¬ kd = 3 by omega), if_neg (show ¬ kd = 5 by omega)]
    have esB : sB n m kd i L M = (addB n L i) := by unfold sB; rw [if_pos (show kd = 0 by omega)]
    exact ⟨_, _, by rw [esB], HS, by rw [esL]; exact hR5, by rw [esM]; exact hM⟩
  · skip
    refine ql (.bool false) (by kernel_rfl) (R_beq (b := (kd == (0 : Int))) (by kernel_rfl) (beq_f (hc3))) ?_
    refine ql (.bool false) (by kernel_rfl) (by kernel_rfl) ?_
    refine wpList_nil ?_
    refine x_then ?_
    refine wp_cond_false (by kernel_rfl) ?_
    refine wp_seq ?_
    refine wp_region_lit ?_
    by_cases hc7 : kd = (1 : Int)
    · skip
      refine ql (.bool true) (by kernel_rfl) (R_beq (b := (kd == (1 : Int))) (by kernel_rfl) (beq_t (hc7))) ?_
      refine ql (.bool true) (by kernel_rfl) (by kernel_rfl) ?_
      refine wpList_nil ?_
      refine x_then ?_
      refine wp_cond_true (by kernel_rfl) ?_
      refine wp_seq ?_
      refine wp_region_lit ?_
      refine ql (.pointer (some ⟨g, 0, none⟩)) (by kernel_rfl) (by kernel_rfl) ?_
      refine ql (.pointer (some ⟨g1, 1, none⟩)) (by kernel_rfl) (by kernel_rfl) ?_
      refine ql (.int .i64 i) (by kernel_rfl) (R_load (p := ⟨g1, 1, none⟩) (by kernel_rfl) (by kernel_rfl) (by kernel_rfl) (HS.cell (i := 0) (j := 1) rfl rfl)) ?_
      refine qc (f := 13) (args := #[.pointer (some ⟨g, 0, none⟩), .int .i64 i]) (by kernel_rfl) (R_call #[.pointer (some ⟨g, 0, none⟩), .int .i64 i] Tryd.func13 (by kernel_rfl) (by kernel_rfl) (by kernel_rfl)) ?_
      replace HS : St W M_ W2 [blk g [.slice A ws.length c, .int .i64 n] 53, row A ws.length c (ci .u64 ws) 54 1, blk g1 [.int .i64 kd, .int .i64 i] 43, blk h [.slice B vs.length c2, .int .i64 m] 53, row B vs.length c2 (ci .u64 vs) 54 1] := HS.perm (perm_ [1, 2, 0, 3, 4] (by kernel_rfl) rfl)
      refine (ddel g c A ws n L i _ _ (St.focus (F := [blk g [.slice A ws.length c, .int .i64 n] 53, row A ws.length c (ci .u64 ws) 54 1]) HS) hR hn).mono ?_
      rintro e W10 ⟨ws8, rfl, H_, hR9⟩
      refine ⟨_, rfl, ?_⟩
      replace HS : St W M_ W10 [blk g [.slice A ws8.length c, .int .i64 n] 53, row A ws8.length c (ci .u64 ws8) 54 1, blk g1 [.int .i64 kd, .int .i64 i] 43, blk h [.slice B vs.length c2, .int .i64 m] 53, row B vs.length c2 (ci .u64 vs) 54 1] := HS.join (F := [blk g [.slice A ws.length c, .int .i64 n] 53, row A ws.length c (ci .u64 ws) 54 1]) (G := [blk g [.slice A ws8.length c, .int .i64 n] 53, row A ws8.length c (ci .u64 ws8) 54 1]) H_
      clear H_
      refine ql (.bool (delB L i)) (by kernel_rfl) (by kernel_rfl) ?_
      refine wpList_nil ?_
      refine x_then ?_
      refine wp_ret ?_
      refine x_inbR ?_
      refine x_thenR ?_
      refine ret_ (.bool (delB L i)) (by kernel_rfl) ?_
      replace HS : St W M_ W10 [blk g [.slice A ws8.length c, .int .i64 n] 53, row A ws8.length c (ci .u64 ws8) 54 1, blk h [.slice B vs.length c2, .int .i64 m] 53, row B vs.length c2 (ci .u64 vs) 54 1] := St.tail (F := [blk g1 [.int .i64 kd, .int .i64 i] 43]) (HS.perm (perm_ [2, 0, 1, 3, 4] (by kernel_rfl) rfl))
      have esL : sL n m kd i L M = (delL L i) := by unfold sL; rw [if_neg (show ¬ kd = 0 by omega), if_pos (show kd = 1 by omega)]
      have esM : sM n m kd i L M = (M) := by unfold sM; rw [if_neg (show ¬ kd = 2 by omega), if_neg (show ¬ kd = 3 by omega), if_neg (show ¬ kd = 5 by omega)]
      have esB : sB n m kd i L M = (delB L i) := by unfold sB; rw [if_neg (show ¬ kd = 0 by omega), if_pos (show kd = 1 by omega)]
      exact ⟨_, _, by rw [esB], HS, by rw [esL]; exact hR9, by rw [esM]; exact hM⟩
    · skip
      refine ql (.bool false) (by kernel_rfl) (R_beq (b := (kd == (1 : Int))) (by kernel_rfl) (beq_f (hc7))) ?_
      refine ql (.bool false) (by kernel_rfl) (by kernel_rfl) ?_
      refine wpList_nil ?_
      refine x_then ?_
      refine wp_cond_false (by kernel_rfl) ?_
      refine wp_seq ?_
      refine wp_region_lit ?_
      by_cases hc11 : kd = (2 : Int)
      · skip
        refine ql (.bool true) (by kernel_rfl) (R_beq (b := (kd == (2 : Int))) (by kernel_rfl) (beq_t (hc11))) ?_
        refine ql (.bool true) (by kernel_rfl) (by kernel_rfl) ?_
        refine wpList_nil ?_
        refine x_then ?_
        refine wp_cond_true (by kernel_rfl) ?_
        refine wp_seq ?_
        refine wp_region_lit ?_
        refine ql (.pointer (some ⟨h, 0, none⟩)) (by kernel_rfl) (by kernel_rfl) ?_
        refine ql (.pointer (some ⟨g1, 1, none⟩)) (by kernel_rfl) (by kernel_rfl) ?_
        refine ql (.int .i64 i) (by kernel_rfl) (R_load (p := ⟨g1, 1, none⟩) (by kernel_rfl) (by kernel_rfl) (by kernel_rfl) (HS.cell (i := 0) (j := 1) rfl rfl)) ?_
        refine qc (f := 8) (args := #[.pointer (some ⟨h, 0, none⟩), .int .i64 i]) (by kernel_rfl) (R_call #[.pointer (some ⟨h, 0, none⟩), .int .i64 i] Tryd.func8 (by kernel_rfl) (by kernel_rfl) (by kernel_rfl)) ?_
        replace HS : St W M_ W2 [blk h [.slice B vs.length c2, .int .i64 m] 53, row B vs.length c2 (ci .u64 vs) 54 1, blk g1 [.int .i64 kd, .int .i64 i] 43, blk g [.slice A ws.length c, .int .i64 n] 53, row A ws.length c (ci .u64 ws) 54 1] := HS.perm (perm_ [3, 4, 0, 1, 2] (by kernel_rfl) rfl)
        refine (dadd h c2 B vs m M i _ _ (St.focus (F := [blk h [.slice B vs.length c2, .int .i64 m] 53, row B vs.length c2 (ci .u64 vs) 54 1]) HS) hM hm).mono ?_
        rintro e W14 ⟨ws12, rfl, H_, hR13⟩
        refine ⟨_, rfl, ?_⟩
        replace HS : St W M_ W14 [blk h [.slice B ws12.length c2, .int .i64 m] 53, row B ws12.length c2 (ci .u64 ws12) 54 1, blk g1 [.int .i64 kd, .int .i64 i] 43, blk g [.slice A ws.length c, .int .i64 n] 53, row A ws.length c (ci .u64 ws) 54 1] := HS.join (F := [blk h [.slice B vs.length c2, .int .i64 m] 53, row B vs.length c2 (ci .u64 vs) 54 1]) (G := [blk h [.slice B ws12.length c2, .int .i64 m] 53, row B ws12.length c2 (ci .u64 ws12) 54 1]) H_
        clear H_
        refine ql (.bool (addB m M i)) (by kernel_rfl) (by kernel_rfl) ?_
        refine wpList_nil ?_
        refine x_then ?_
        refine wp_ret ?_
        refine x_inbR ?_
        refine x_thenR ?_
        refine ret_ (.bool (addB m M i)) (by kernel_rfl) ?_
        replace HS : St W M_ W14 [blk g [.slice A ws.length c, .int .i64 n] 53, row A ws.length c (ci .u64 ws) 54 1, blk h [.slice B ws12.length c2, .int .i64 m] 53, row B ws12.length c2 (ci .u64 ws12) 54 1] := St.tail (F := [blk g1 [.int .i64 kd, .int .i64 i] 43]) (HS.perm (perm_ [2, 3, 4, 0, 1] (by kernel_rfl) rfl))
        have esL : sL n m kd i L M = (L) := by unfold sL; rw [if_neg (show ¬ kd = 0 by omega), if_neg (show ¬ kd = 1 by omega), if_neg (show ¬ kd = 4 by omega)]
        have esM : sM n m kd i L M = (addL m M i) := by unfold sM; rw [if_pos (show kd = 2 by omega)]
        have esB : sB n m kd i L M = (addB m M i) := by unfold sB; rw [if_neg (show ¬ kd = 0 by omega), if_neg (show ¬ kd = 1 by omega), if_pos (show kd = 2 by omega)]
        exact ⟨_, _, by rw [esB], HS, by rw [esL]; exact hR, by rw [esM]; exact hR13⟩
      · skip
        refine ql (.bool false) (by kernel_rfl) (R_beq (b := (kd == (2 : Int))) (by kernel_rfl) (beq_f (hc11))) ?_
        refine ql (.bool false) (by kernel_rfl) (by kernel_rfl) ?_
        refine wpList_nil ?_
        refine x_then ?_
        refine wp_cond_false (by kernel_rfl) ?_
        refine wp_seq ?_
        refine wp_region_lit ?_
        by_cases hc15 : kd = (3 : Int)
        · skip
          refine ql (.bool true) (by kernel_rfl) (R_beq (b := (kd == (3 : Int))) (by kernel_rfl) (beq_t (hc15))) ?_
          refine ql (.bool true) (by kernel_rfl) (by kernel_rfl) ?_
          refine wpList_nil ?_
          refine x_then ?_
          refine wp_cond_true (by kernel_rfl) ?_
          refine wp_seq ?_
          refine wp_region_lit ?_
          refine ql (.pointer (some ⟨h, 0, none⟩)) (by kernel_rfl) (by kernel_rfl) ?_
          refine ql (.pointer (some ⟨g1, 1, none⟩)) (by kernel_rfl) (by kernel_rfl) ?_
          refine ql (.int .i64 i) (by kernel_rfl) (R_load (p := ⟨g1, 1, none⟩) (by kernel_rfl) (by kernel_rfl) (by kernel_rfl) (HS.cell (i := 0) (j := 1) rfl rfl)) ?_
          refine qc (f := 13) (args := #[.pointer (some ⟨h, 0, none⟩), .int .i64 i]) (by kernel_rfl) (R_call #[.pointer (some ⟨h, 0, none⟩), .int .i64 i] Tryd.func13 (by kernel_rfl) (by kernel_rfl) (by kernel_rfl)) ?_
          replace HS : St W M_ W2 [blk h [.slice B vs.length c2, .int .i64 m] 53, row B vs.length c2 (ci .u64 vs) 54 1, blk g1 [.int .i64 kd, .int .i64 i] 43, blk g [.slice A ws.length c, .int .i64 n] 53, row A ws.length c (ci .u64 ws) 54 1] := HS.perm (perm_ [3, 4, 0, 1, 2] (by kernel_rfl) rfl)
          refine (ddel h c2 B vs m M i _ _ (St.focus (F := [blk h [.slice B vs.length c2, .int .i64 m] 53, row B vs.length c2 (ci .u64 vs) 54 1]) HS) hM hm).mono ?_
          rintro e W18 ⟨ws16, rfl, H_, hR17⟩
          refine ⟨_, rfl, ?_⟩
          replace HS : St W M_ W18 [blk h [.slice B ws16.length c2, .int .i64 m] 53, row B ws16.length c2 (ci .u64 ws16) 54 1, blk g1 [.int .i64 kd, .int .i64 i] 43, blk g [.slice A ws.length c, .int .i64 n] 53, row A ws.length c (ci .u64 ws) 54 1] := HS.join (F := [blk h [.slice B vs.length c2, .int .i64 m] 53, row B vs.length c2 (ci .u64 vs) 54 1]) (G := [blk h [.slice B ws16.length c2, .int .i64 m] 53, row B ws16.length c2 (ci .u64 ws16) 54 1]) H_
          clear H_
          refine ql (.bool (delB M i)) (by kernel_rfl) (by kernel_rfl) ?_
          refine wpList_nil ?_
          refine x_then ?_
          refine wp_ret ?_
          refine x_inbR ?_
          refine x_thenR ?_
          refine ret_ (.bool (delB M i)) (by kernel_rfl) ?_
          replace HS : St W M_ W18 [blk g [.slice A ws.length c, .int .i64 n] 53, row A ws.length c (ci .u64 ws) 54 1, blk h [.slice B ws16.length c2, .int .i64 m] 53, row B ws16.length c2 (ci .u64 ws16) 54 1] := St.tail (F := [blk g1 [.int .i64 kd, .int .i64 i] 43]) (HS.perm (perm_ [2, 3, 4, 0, 1] (by kernel_rfl) rfl))
          have esL : sL n m kd i L M = (L) := by unfold sL; rw [if_neg (show ¬ kd = 0 by omega), if_neg (show ¬ kd = 1 by omega), if_neg (show ¬ kd = 4 by omega)]
          have esM : sM n m kd i L M = (delL M i) := by unfold sM; rw [if_neg (show ¬ kd = 2 by omega), if_pos (show kd = 3 by omega)]
          have esB : sB n m kd i L M = (delB M i) := by unfold sB; rw [if_neg (show ¬ kd = 0 by omega), if_neg (show ¬ kd = 1 by omega), if_neg (show ¬ kd = 2 by omega), if_pos (show kd = 3 by omega)]
          exact ⟨_, _, by rw [esB], HS, by rw [esL]; exact hR, by rw [esM]; exact hR17⟩
        · skip
          refine ql (.bool false) (by kernel_rfl) (R_beq (b := (kd == (3 : Int))) (by kernel_rfl) (beq_f (hc15))) ?_
          refine ql (.bool false) (by kernel_rfl) (by kernel_rfl) ?_
          refine wpList_nil ?_
          refine x_then ?_
          refine wp_cond_false (by kernel_rfl) ?_
          refine wp_seq ?_
          refine wp_region_lit ?_
          by_cases hc19 : kd = (4 : Int)
          · skip
            refine ql (.bool true) (by kernel_rfl) (R_beq (b := (kd == (4 : Int))) (by kernel_rfl) (beq_t (hc19))) ?_
            refine ql (.bool true) (by kernel_rfl) (by kernel_rfl) ?_
            refine wpList_nil ?_
            refine x_then ?_
            refine wp_cond_true (by kernel_rfl) ?_
            refine wp_seq ?_
            refine wp_region_lit ?_
            refine ql (.pointer (some ⟨g, 0, none⟩)) (by kernel_rfl) (by kernel_rfl) ?_
            refine ql (.pointer (some ⟨h, 0, none⟩)) (by kernel_rfl) (by kernel_rfl) ?_
            refine qc (f := 11) (args := #[.pointer (some ⟨g, 0, none⟩), .pointer (some ⟨h, 0, none⟩)]) (by kernel_rfl) (R_call #[.pointer (some ⟨g, 0, none⟩), .pointer (some ⟨h, 0, none⟩)] Tryd.func11 (by kernel_rfl) (by kernel_rfl) (by kernel_rfl)) ?_
            replace HS : St W M_ W2 [blk g [.slice A ws.length c, .int .i64 n] 53, row A ws.length c (ci .u64 ws) 54 1, blk h [.slice B vs.length c2, .int .i64 m] 53, row B vs.length c2 (ci .u64 vs) 54 1, blk g1 [.int .i64 kd, .int .i64 i] 43] := HS.perm (perm_ [1, 2, 3, 4, 0] (by kernel_rfl) rfl)
            refine (dor2 g c A ws n h c2 B vs m L M _ _ (St.focus (F := [blk g [.slice A ws.length c, .int .i64 n] 53, row A ws.length c (ci .u64 ws) 54 1, blk h [.slice B vs.length c2, .int .i64 m] 53, row B vs.length c2 (ci .u64 vs) 54 1]) HS) hR hM hn).mono ?_
            rintro e W22 ⟨ws20, rfl, H_, hR21⟩
            refine ⟨_, rfl, ?_⟩
            replace HS : St W M_ W22 [blk g [.slice A ws20.length c, .int .i64 n] 53, row A ws20.length c (ci .u64 ws20) 54 1, blk h [.slice B vs.length c2, .int .i64 m] 53, row B vs.length c2 (ci .u64 vs) 54 1, blk g1 [.int .i64 kd, .int .i64 i] 43] := HS.join (F := [blk g [.slice A ws.length c, .int .i64 n] 53, row A ws.length c (ci .u64 ws) 54 1, blk h [.slice B vs.length c2, .int .i64 m] 53, row B vs.length c2 (ci .u64 vs) 54 1]) (G := [blk g [.slice A ws20.length c, .int .i64 n] 53, row A ws20.length c (ci .u64 ws20) 54 1, blk h [.slice B vs.length c2, .int .i64 m] 53, row B vs.length c2 (ci .u64 vs) 54 1]) H_
            clear H_
            refine ql (.bool (if n = m then newB L M else false)) (by kernel_rfl) (by kernel_rfl) ?_
            refine wpList_nil ?_
            refine x_then ?_
            refine wp_ret ?_
            refine x_inbR ?_
            refine x_thenR ?_
            refine ret_ (.bool (if n = m then newB L M else false)) (by kernel_rfl) ?_
            replace HS : St W M_ W22 [blk g [.slice A ws20.length c, .int .i64 n] 53, row A ws20.length c (ci .u64 ws20) 54 1, blk h [.slice B vs.length c2, .int .i64 m] 53, row B vs.length c2 (ci .u64 vs) 54 1] := St.tail (F := [blk g1 [.int .i64 kd, .int .i64 i] 43]) (HS.perm (perm_ [4, 0, 1, 2, 3] (by kernel_rfl) rfl))
            have esL : sL n m kd i L M = (if n = m then uni L M else L) := by unfold sL; rw [if_neg (show ¬ kd = 0 by omega), if_neg (show ¬ kd = 1 by omega), if_pos (show kd = 4 by omega)]
            have esM : sM n m kd i L M = (M) := by unfold sM; rw [if_neg (show ¬ kd = 2 by omega), if_neg (show ¬ kd = 3 by omega), if_neg (show ¬ kd = 5 by omega)]
            have esB : sB n m kd i L M = (if n = m then newB L M else false) := by unfold sB; rw [if_neg (show ¬ kd = 0 by omega), if_neg (show ¬ kd = 1 by omega), if_neg (show ¬ kd = 2 by omega), if_neg (show ¬ kd = 3 by omega), if_pos (show kd = 4 by omega)]
            exact ⟨_, _, by rw [esB], HS, by rw [esL]; exact hR21, by rw [esM]; exact hM⟩
          · skip
            refine ql (.bool false) (by kernel_rfl) (R_beq (b := (kd == (4 : Int))) (by kernel_rfl) (beq_f (hc19))) ?_
            refine ql (.bool false) (by kernel_rfl) (by kernel_rfl) ?_
            refine wpList_nil ?_
            refine x_then ?_
            refine wp_cond_false (by kernel_rfl) ?_
            refine wp_seq ?_
            refine wp_region_lit ?_
            by_cases hc23 : kd = (5 : Int)
            · skip
              refine ql (.bool true) (by kernel_rfl) (R_beq (b := (kd == (5 : Int))) (by kernel_rfl) (beq_t (hc23))) ?_
              refine ql (.bool true) (by kernel_rfl) (by kernel_rfl) ?_
              refine wpList_nil ?_
              refine x_then ?_
              refine wp_cond_true (by kernel_rfl) ?_
              refine wp_seq ?_
              refine wp_region_lit ?_
              refine ql (.pointer (some ⟨h, 0, none⟩)) (by kernel_rfl) (by kernel_rfl) ?_
              refine ql (.pointer (some ⟨g, 0, none⟩)) (by kernel_rfl) (by kernel_rfl) ?_
              refine qc (f := 11) (args := #[.pointer (some ⟨h, 0, none⟩), .pointer (some ⟨g, 0, none⟩)]) (by kernel_rfl) (R_call #[.pointer (some ⟨h, 0, none⟩), .pointer (some ⟨g, 0, none⟩)] Tryd.func11 (by kernel_rfl) (by kernel_rfl) (by kernel_rfl)) ?_
              replace HS : St W M_ W2 [blk h [.slice B vs.length c2, .int .i64 m] 53, row B vs.length c2 (ci .u64 vs) 54 1, blk g [.slice A ws.length c, .int .i64 n] 53, row A ws.length c (ci .u64 ws) 54 1, blk g1 [.int .i64 kd, .int .i64 i] 43] := HS.perm (perm_ [3, 4, 1, 2, 0] (by kernel_rfl) rfl)
              refine (dor2 h c2 B vs m g c A ws n M L _ _ (St.focus (F := [blk h [.slice B vs.length c2, .int .i64 m] 53, row B vs.length c2 (ci .u64 vs) 54 1, blk g [.slice A ws.length c, .int .i64 n] 53, row A ws.length c (ci .u64 ws) 54 1]) HS) hM hR hm).mono ?_
              rintro e W26 ⟨ws24, rfl, H_, hR25⟩
              refine ⟨_, rfl, ?_⟩
              replace HS : St W M_ W26 [blk h [.slice B ws24.length c2, .int .i64 m] 53, row B ws24.length c2 (ci .u64 ws24) 54 1, blk g [.slice A ws.length c, .int .i64 n] 53, row A ws.length c (ci .u64 ws) 54 1, blk g1 [.int .i64 kd, .int .i64 i] 43] := HS.join (F := [blk h [.slice B vs.length c2, .int .i64 m] 53, row B vs.length c2 (ci .u64 vs) 54 1, blk g [.slice A ws.length c, .int .i64 n] 53, row A ws.length c (ci .u64 ws) 54 1]) (G := [blk h [.slice B ws24.length c2, .int .i64 m] 53, row B ws24.length c2 (ci .u64 ws24) 54 1, blk g [.slice A ws.length c, .int .i64 n] 53, row A ws.length c (ci .u64 ws) 54 1]) H_
              clear H_
              refine ql (.bool (if m = n then newB M L else false)) (by kernel_rfl) (by kernel_rfl) ?_
              refine wpList_nil ?_
              refine x_then ?_
              refine wp_ret ?_
              refine x_inbR ?_
              refine x_thenR ?_
              refine ret_ (.bool (if m = n then newB M L else false)) (by kernel_rfl) ?_
              replace HS : St W M_ W26 [blk g [.slice A ws.length c, .int .i64 n] 53, row A ws.length c (ci .u64 ws) 54 1, blk h [.slice B ws24.length c2, .int .i64 m] 53, row B ws24.length c2 (ci .u64 ws24) 54 1] := St.tail (F := [blk g1 [.int .i64 kd, .int .i64 i] 43]) (HS.perm (perm_ [4, 2, 3, 0, 1] (by kernel_rfl) rfl))
              have esL : sL n m kd i L M = (L) := by unfold sL; rw [if_neg (show ¬ kd = 0 by omega), if_neg (show ¬ kd = 1 by omega), if_neg (show ¬ kd = 4 by omega)]
              have esM : sM n m kd i L M = (if n = m then uni M L else M) := by unfold sM; rw [if_neg (show ¬ kd = 2 by omega), if_neg (show ¬ kd = 3 by omega), if_pos (show kd = 5 by omega)]
              have esB : sB n m kd i L M = (if n = m then newB M L else false) := by unfold sB; rw [if_neg (show ¬ kd = 0 by omega), if_neg (show ¬ kd = 1 by omega), if_neg (show ¬ kd = 2 by omega), if_neg (show ¬ kd = 3 by omega), if_neg (show ¬ kd = 4 by omega), if_pos (show kd = 5 by omega)]
              have hcm : (n = m) = (m = n) := propext ⟨Eq.symm, Eq.symm⟩
              exact ⟨_, _, by rw [esB]; simp only [hcm], HS, by rw [esL]; exact hR, by rw [esM]; simp only [hcm]; exact hR25⟩
            · skip
              refine ql (.bool false) (by kernel_rfl) (R_beq (b := (kd == (5 : Int))) (by kernel_rfl) (beq_f (hc23))) ?_
              refine ql (.bool false) (by kernel_rfl) (by kernel_rfl) ?_
              refine wpList_nil ?_
              refine x_then ?_
              refine wp_cond_false (by kernel_rfl) ?_
              refine wp_skip ?_
              refine x_inb ?_
              refine x_then ?_
              refine wp_seq ?_
              refine wp_region_lit ?_
              refine ql (.bool false) (by kernel_rfl) (by kernel_rfl) ?_
              refine wpList_nil ?_
              refine x_then ?_
              refine wp_ret ?_
              refine ret_ (.bool false) (by kernel_rfl) ?_
              replace HS := HS.drop1
              have esL : sL n m kd i L M = (L) := by unfold sL; rw [if_neg (show ¬ kd = 0 by omega), if_neg (show ¬ kd = 1 by omega), if_neg (show ¬ kd = 4 by omega)]
              have esM : sM n m kd i L M = (M) := by unfold sM; rw [if_neg (show ¬ kd = 2 by omega), if_neg (show ¬ kd = 3 by omega), if_neg (show ¬ kd = 5 by omega)]
              have esB : sB n m kd i L M = (false) := by unfold sB; rw [if_neg (show ¬ kd = 0 by omega), if_neg (show ¬ kd = 1 by omega), if_neg (show ¬ kd = 2 by omega), if_neg (show ¬ kd = 3 by omega), if_neg (show ¬ kd = 4 by omega), if_neg (show ¬ kd = 5 by omega)]
              exact ⟨_, _, by rw [esB], HS, by rw [esL]; exact hR, by rw [esM]; exact hM⟩

set_option maxRecDepth 100000 in
set_option maxHeartbeats 1000000 in
theorem dtells (g c : Nat) (A : Option Addr) (ws : List Int) (n : Int) (L : List Int) (Aw : Option Addr) (cw : Nat) (i : Int) (W : World) (hz0 : W.cell? ⟨g, 0, none⟩ = some (.slice A ws.length c)) (hz1 : W.cell? ⟨g, 1, none⟩ = some (.int .i64 n)) (hr : Rd W A (ci .u64 ws)) (hR : Rep ws n L) (hn : n ≤ 1048576) (hT : TabAt64 W) (hw : Rd W Aw (ci .i64 L)) (hl : L.length ≤ 50000) : Calls Tryd.prog 18 #[.pointer (some ⟨g, 0, none⟩), .agg #[.int .i64 n, .slice Aw L.length cw], .int .i64 i] W fun e W' => e = .returned (.bool true) ∧ St W (owns []) W' [] := by
  have HS : St W (owns []) W [] := St.start W _
  have hll := hR.llen
  refine calls_enter [.pointer (some ⟨g, 0, none⟩), .agg #[.int .i64 n, .slice Aw L.length cw], .int .i64 i, undef, undef, undef, undef, undef, undef, undef, undef, undef, undef, undef, undef, undef, undef, undef, undef, undef, undef, undef, undef, undef, undef, undef, undef, undef, undef, undef, undef, undef, undef, undef, undef, undef, undef, undef, undef, undef, undef, undef, undef, undef, undef] Tryd.func18 rfl (by kernel_rfl) ?_
  refine wp_seq ?_
  refine wp_region_lit ?_
  refine kb HS [.int .i64 n, .slice Aw L.length cw] 39 (fun g => .pointer (some ⟨g, 0, none⟩)) (by kernel_rfl) (by kernel_rfl) ?_
  intro g1 W2 H_
  replace HS : St W (owns []) W2 [blk g1 [.int .i64 n, .slice Aw L.length cw] 39] := H_
  clear H_
  refine ql (.bool false) (by kernel_rfl) (by kernel_rfl) ?_
  refine wpList_nil ?_
  refine x_then ?_
  refine wp_seq ?_
  refine t_start HS (fun _ => False) 39 (by kernel_rfl) rfl ?_
  intro W3 H_ HD_
  clear HD_
  replace HS : St W (owns []) W3 [blk g1 [.int .i64 n, .slice Aw L.length cw] 39] := H_
  clear H_
  have HV := HS
  have HK := Kpt.refl (fun _ => False) W3
  refine t_q (n := 38) 0 (.pointer (some ⟨g, 0, none⟩)) rfl (by kernel_rfl) (by kernel_rfl) (fun _ _ _ h => h) (fun w' hk => (by kernel_rfl)) HK ?_
  refine t_q (n := 37) 2 (.pointer (some ⟨g1, 0, none⟩)) rfl (by kernel_rfl) (by kernel_rfl) (fun _ _ _ h => h) (fun w' hk => (by kernel_rfl)) HK ?_
  refine t_q (n := 36) 3 (.int .i64 n) rfl (by kernel_rfl) (by kernel_rfl) (fun _ _ _ h => h) (fun w' hk => (R_load (p := ⟨g1, 0, none⟩) (by kernel_rfl) (by kernel_rfl) (by kernel_rfl) (hk.cell (HV.cell (i := 0) (j := 0) rfl rfl)))) HK ?_
  refine t_c (n := 35) 1 (f := 22) (args := #[.pointer (some ⟨g, 0, none⟩)]) rfl (by kernel_rfl) (by kernel_rfl) (R_call #[.pointer (some ⟨g, 0, none⟩)] Tryd.func22 (by kernel_rfl) (by kernel_rfl) (by kernel_rfl)) ?_
  refine (dsize _ _ _ (HS.old0 hz1)).mono ?_
  rintro e W4 ⟨rfl, H_⟩
  refine ⟨_, rfl, HK.tr H_.kept.nil, ?_⟩
  replace HK := HK.tr H_.kept.nil
  replace HS : St W (owns []) W4 [blk g1 [.int .i64 n, .slice Aw L.length cw] 39] := HS.join (F := []) (G := []) H_
  clear H_
  refine t_q (n := 34) 4 (.bool true) rfl (by kernel_rfl) (by kernel_rfl) (fun _ _ _ h => h) (fun w' hk => (R_beq (b := (n == n)) (by kernel_rfl) (beq_t (by omega)))) HK ?_
  refine t_q (n := 33) 5 (.bool true) rfl (by kernel_rfl) (by kernel_rfl) (fun _ _ _ h => h) (fun w' hk => (by kernel_rfl)) HK ?_
  refine t_q (n := 32) 6 (.pointer (some ⟨g, 0, none⟩)) rfl (by kernel_rfl) (by kernel_rfl) (fun _ _ _ h => h) (fun w' hk => (by kernel_rfl)) HK ?_
  refine t_q (n := 31) 7 (.int .i64 i) rfl (by kernel_rfl) (by kernel_rfl) (fun _ _ _ h => h) (fun w' hk => (by kernel_rfl)) HK ?_
  refine t_q (n := 30) 9 (.agg #[.int .i64 n, .slice Aw L.length cw]) rfl (by kernel_rfl) (by kernel_rfl) (fun _ _ _ h => h) (fun w' hk => (R_loadN (p := ⟨g1, 0, none⟩) [.int .i64 n, .slice Aw L.length cw] (by kernel_rfl) (by kernel_rfl) (by kernel_rfl) (by kernel_rfl) (two_at (hk.cell (HV.cell (i := 0) (j := 0) rfl rfl)) (hk.cell (HV.cell (i := 0) (j := 1) rfl rfl))))) HK ?_
  refine t_q (n := 29) 10 (.int .i64 i) rfl (by kernel_rfl) (by kernel_rfl) (fun _ _ _ h => h) (fun w' hk => (by kernel_rfl)) HK ?_
  refine t_c (n := 28) 8 (f := 15) (args := #[.pointer (some ⟨g, 0, none⟩), .int .i64 i]) rfl (by kernel_rfl) (by kernel_rfl) (R_call #[.pointer (some ⟨g, 0, none⟩), .int .i64 i] Tryd.func15 (by kernel_rfl) (by kernel_rfl) (by kernel_rfl)) ?_
  by_cases hv : i ∈ L
  · skip
    have hdx4 : decide (i ∈ L) = true := decide_eq_true hv
    refine (dhas g c A ws n L i _ (HS.old0 hz0) (HS.old0 hz1) (hr.old0 HS) hR hn).mono ?_
    rintro e W5 ⟨rfl, H_⟩
    rw [hdx4]
    refine ⟨_, rfl, HK.tr H_.kept.nil, ?_⟩
    replace HK := HK.tr H_.kept.nil
    replace HS : St W (owns []) W5 [blk g1 [.int .i64 n, .slice Aw L.length cw] 39] := HS.join (F := []) (G := []) H_
    clear H_
    refine t_c (n := 27) 11 (f := 32) (args := #[.agg #[.int .i64 n, .slice Aw L.length cw], .int .i64 i]) rfl (by kernel_rfl) (by kernel_rfl) (R_call #[.agg #[.int .i64 n, .slice Aw L.length cw], .int .i64 i] Tryd.func32 (by kernel_rfl) (by kernel_rfl) (by kernel_rfl)) ?_
    have hdx5 : decide (i ∈ L) = true := decide_eq_true hv
    refine (r3has Aw cw L n i _ (hw.old0 HS) (by omega)).mono ?_
    rintro e W6 ⟨rfl, H_⟩
    rw [hdx5]
    refine ⟨_, rfl, HK.tr H_.kept.nil, ?_⟩
    replace HK := HK.tr H_.kept.nil
    replace HS : St W (owns []) W6 [blk g1 [.int .i64 n, .slice Aw L.length cw] 39] := HS.join (F := []) (G := []) H_
    clear H_
    refine t_q (n := 26) 12 (.bool true) rfl (by kernel_rfl) (by kernel_rfl) (fun _ _ _ h => h) (fun w' hk => (by kernel_rfl)) HK ?_
    refine t_q (n := 25) 13 (.bool true) rfl (by kernel_rfl) (by kernel_rfl) (fun _ _ _ h => h) (fun w' hk => (by kernel_rfl)) HK ?_
    refine t_q (n := 24) 14 (.bool true) rfl (by kernel_rfl) (by kernel_rfl) (fun _ _ _ h => h) (fun w' hk => (by kernel_rfl)) HK ?_
    refine t_q (n := 23) 15 (.pointer (some ⟨g, 0, none⟩)) rfl (by kernel_rfl) (by kernel_rfl) (fun _ _ _ h => h) (fun w' hk => (by kernel_rfl)) HK ?_
    refine t_q (n := 22) 17 (.pointer (some ⟨g1, 1, none⟩)) rfl (by kernel_rfl) (by kernel_rfl) (fun _ _ _ h => h) (fun w' hk => (by kernel_rfl)) HK ?_
    refine t_q (n := 21) 18 (.slice Aw L.length cw) rfl (by kernel_rfl) (by kernel_rfl) (fun _ _ _ h => h) (fun w' hk => (R_load (p := ⟨g1, 1, none⟩) (by kernel_rfl) (by kernel_rfl) (by kernel_rfl) (hk.cell (HV.cell (i := 0) (j := 1) rfl rfl)))) HK ?_
    refine t_q (n := 20) 19 (.int .i64 (L.length : Int)) rfl (by kernel_rfl) (by kernel_rfl) (fun _ _ _ h => h) (fun w' hk => (by kernel_rfl)) HK ?_
    refine t_c (n := 19) 16 (f := 12) (args := #[.pointer (some ⟨g, 0, none⟩)]) rfl (by kernel_rfl) (by kernel_rfl) (R_call #[.pointer (some ⟨g, 0, none⟩)] Tryd.func12 (by kernel_rfl) (by kernel_rfl) (by kernel_rfl)) ?_
    refine (dcount g c A ws n L _ (HS.old0 hz0) (HS.old0 hz1) (hr.old0 HS) hR hn).mono ?_
    rintro e W7 ⟨rfl, H_⟩
    refine ⟨_, rfl, HK.tr H_.kept.nil, ?_⟩
    replace HK := HK.tr H_.kept.nil
    replace HS : St W (owns []) W7 [blk g1 [.int .i64 n, .slice Aw L.length cw] 39] := HS.join (F := []) (G := []) H_
    clear H_
    refine t_q (n := 18) 20 (.bool true) rfl (by kernel_rfl) (by kernel_rfl) (fun _ _ _ h => h) (fun w' hk => (R_beq (b := ((L.length : Int) == (L.length : Int))) (by kernel_rfl) (beq_t (by omega)))) HK ?_
    refine t_q (n := 17) 21 (.bool true) rfl (by kernel_rfl) (by kernel_rfl) (fun _ _ _ h => h) (fun w' hk => (by kernel_rfl)) HK ?_
    refine t_q (n := 16) 22 (.bool true) rfl (by kernel_rfl) (by kernel_rfl) (fun _ _ _ h => h) (fun w' hk => (by kernel_rfl)) HK ?_
    refine t_q (n := 15) 23 (.pointer (some ⟨g, 0, none⟩)) rfl (by kernel_rfl) (by kernel_rfl) (fun _ _ _ h => h) (fun w' hk => (by kernel_rfl)) HK ?_
    refine t_q (n := 14) 24 (.int .i64 i) rfl (by kernel_rfl) (by kernel_rfl) (fun _ _ _ h => h) (fun w' hk => (by kernel_rfl)) HK ?_
    refine t_q (n := 13) 26 (.agg #[.int .i64 n, .slice Aw L.length cw]) rfl (by kernel_rfl) (by kernel_rfl) (fun _ _ _ h => h) (fun w' hk => (R_loadN (p := ⟨g1, 0, none⟩) [.int .i64 n, .slice Aw L.length cw] (by kernel_rfl) (by kernel_rfl) (by kernel_rfl) (by kernel_rfl) (two_at (hk.cell (HV.cell (i := 0) (j := 0) rfl rfl)) (hk.cell (HV.cell (i := 0) (j := 1) rfl rfl))))) HK ?_
    refine t_q (n := 12) 27 (.int .i64 i) rfl (by kernel_rfl) (by kernel_rfl) (fun _ _ _ h => h) (fun w' hk => (by kernel_rfl)) HK ?_
    refine t_c (n := 11) 25 (f := 23) (args := #[.pointer (some ⟨g, 0, none⟩), .int .i64 i]) rfl (by kernel_rfl) (by kernel_rfl) (R_call #[.pointer (some ⟨g, 0, none⟩), .int .i64 i] Tryd.func23 (by kernel_rfl) (by kernel_rfl) (by kernel_rfl)) ?_
    refine (dnext g c A ws n L i _ (HS.old0 hz0) (HS.old0 hz1) (hr.old0 HS) hR hn (hT.old0 HS)).mono ?_
    rintro e W8 ⟨rfl, H_⟩
    refine ⟨_, rfl, HK.tr H_.kept.nil, ?_⟩
    replace HK := HK.tr H_.kept.nil
    replace HS : St W (owns []) W8 [blk g1 [.int .i64 n, .slice Aw L.length cw] 39] := HS.join (F := []) (G := []) H_
    clear H_
    refine t_c (n := 10) 28 (f := 33) (args := #[.agg #[.int .i64 n, .slice Aw L.length cw], .int .i64 i]) rfl (by kernel_rfl) (by kernel_rfl) (R_call #[.agg #[.int .i64 n, .slice Aw L.length cw], .int .i64 i] Tryd.func33 (by kernel_rfl) (by kernel_rfl) (by kernel_rfl)) ?_
    refine (r3next Aw cw L n i _ (hw.old0 HS) (by omega)).mono ?_
    rintro e W9 ⟨rfl, H_⟩
    refine ⟨_, rfl, HK.tr H_.kept.nil, ?_⟩
    replace HK := HK.tr H_.kept.nil
    replace HS : St W (owns []) W9 [blk g1 [.int .i64 n, .slice Aw L.length cw] 39] := HS.join (F := []) (G := []) H_
    clear H_
    refine t_q (n := 9) 29 (.bool true) rfl (by kernel_rfl) (by kernel_rfl) (fun _ _ _ h => h) (fun w' hk => (R_beq (b := (nxt L i == nxt L i)) (by kernel_rfl) (beq_t (by omega)))) HK ?_
    refine t_q (n := 8) 30 (.bool true) rfl (by kernel_rfl) (by kernel_rfl) (fun _ _ _ h => h) (fun w' hk => (by kernel_rfl)) HK ?_
    refine t_q (n := 7) 31 (.bool true) rfl (by kernel_rfl) (by kernel_rfl) (fun _ _ _ h => h) (fun w' hk => (by kernel_rfl)) HK ?_
    refine t_q (n := 6) 32 (.pointer (some ⟨g, 0, none⟩)) rfl (by kernel_rfl) (by kernel_rfl) (fun _ _ _ h => h) (fun w' hk => (by kernel_rfl)) HK ?_
    refine t_q (n := 5) 34 (.pointer (some ⟨g1, 1, none⟩)) rfl (by kernel_rfl) (by kernel_rfl) (fun _ _ _ h => h) (fun w' hk => (by kernel_rfl)) HK ?_
    refine t_q (n := 4) 35 (.slice Aw L.length cw) rfl (by kernel_rfl) (by kernel_rfl) (fun _ _ _ h => h) (fun w' hk => (R_load (p := ⟨g1, 1, none⟩) (by kernel_rfl) (by kernel_rfl) (by kernel_rfl) (hk.cell (HV.cell (i := 0) (j := 1) rfl rfl)))) HK ?_
    refine t_c (n := 3) 33 (f := 24) (args := #[.pointer (some ⟨g, 0, none⟩)]) rfl (by kernel_rfl) (by kernel_rfl) (R_call #[.pointer (some ⟨g, 0, none⟩)] Tryd.func24 (by kernel_rfl) (by kernel_rfl) (by kernel_rfl)) ?_
    refine (dlist g c A ws n L _ (HS.old0 hz0) (HS.old0 hz1) (hr.old0 HS) hR hn (hT.old0 HS)).mono ?_
    rintro e W12 ⟨A10, c11, rfl, H_⟩
    refine ⟨_, rfl, HK.tr H_.kept.nil, ?_⟩
    replace HK := HK.tr H_.kept.nil
    replace HS : St W (owns []) W12 [row A10 L.length c11 (ci .i64 L) 3 1, blk g1 [.int .i64 n, .slice Aw L.length cw] 39] := HS.join (F := []) (G := [row A10 L.length c11 (ci .i64 L) 3 1]) H_
    clear H_
    refine t_c (n := 2) 36 (f := 21) (args := #[.slice A10 L.length c11, .slice Aw L.length cw]) rfl (by kernel_rfl) (by kernel_rfl) (R_call #[.slice A10 L.length c11, .slice Aw L.length cw] Tryd.func21 (by kernel_rfl) (by kernel_rfl) (by kernel_rfl)) ?_
    refine (r1same A10 Aw _ _ L L _ (Rd.row HS (i := 0) rfl) (by omega) (hw.old0 HS) (by omega)).mono ?_
    rintro e W13 ⟨rfl, H_⟩
    rw [decide_eq_true (rfl : L = L)]
    refine ⟨_, rfl, HK.tr H_.kept.nil, ?_⟩
    replace HK := HK.tr H_.kept.nil
    replace HS : St W (owns []) W13 [row A10 L.length c11 (ci .i64 L) 3 1, blk g1 [.int .i64 n, .slice Aw L.length cw] 39] := HS.join (F := []) (G := []) H_
    clear H_
    refine t_q (n := 1) 37 (.bool true) rfl (by kernel_rfl) (by kernel_rfl) (fun _ _ _ h => h) (fun w' hk => (by kernel_rfl)) HK ?_
    refine t_q (n := 0) 38 (.bool true) rfl (by kernel_rfl) (by kernel_rfl) (fun _ _ _ h => h) (fun w' hk => (by kernel_rfl)) HK ?_
    refine t_done (by kernel_rfl) ?_
    clear HV HK
    refine x_then ?_
    refine wp_ret ?_
    refine ret_ (.bool true) (by kernel_rfl) ?_
    replace HS := HS.drop1
    replace HS := HS.drop1
    exact ⟨rfl, HS⟩
  · skip
    have hdx13 : decide (i ∈ L) = false := decide_eq_false hv
    refine (dhas g c A ws n L i _ (HS.old0 hz0) (HS.old0 hz1) (hr.old0 HS) hR hn).mono ?_
    rintro e W14 ⟨rfl, H_⟩
    rw [hdx13]
    refine ⟨_, rfl, HK.tr H_.kept.nil, ?_⟩
    replace HK := HK.tr H_.kept.nil
    replace HS : St W (owns []) W14 [blk g1 [.int .i64 n, .slice Aw L.length cw] 39] := HS.join (F := []) (G := []) H_
    clear H_
    refine t_c (n := 27) 11 (f := 32) (args := #[.agg #[.int .i64 n, .slice Aw L.length cw], .int .i64 i]) rfl (by kernel_rfl) (by kernel_rfl) (R_call #[.agg #[.int .i64 n, .slice Aw L.length cw], .int .i64 i] Tryd.func32 (by kernel_rfl) (by kernel_rfl) (by kernel_rfl)) ?_
    have hdx14 : decide (i ∈ L) = false := decide_eq_false hv
    refine (r3has Aw cw L n i _ (hw.old0 HS) (by omega)).mono ?_
    rintro e W15 ⟨rfl, H_⟩
    rw [hdx14]
    refine ⟨_, rfl, HK.tr H_.kept.nil, ?_⟩
    replace HK := HK.tr H_.kept.nil
    replace HS : St W (owns []) W15 [blk g1 [.int .i64 n, .slice Aw L.length cw] 39] := HS.join (F := []) (G := []) H_
    clear H_
    refine t_q (n := 26) 12 (.bool true) rfl (by kernel_rfl) (by kernel_rfl) (fun _ _ _ h => h) (fun w' hk => (by kernel_rfl)) HK ?_
    refine t_q (n := 25) 13 (.bool true) rfl (by kernel_rfl) (by kernel_rfl) (fun _ _ _ h => h) (fun w' hk => (by kernel_rfl)) HK ?_
    refine t_q (n := 24) 14 (.bool true) rfl (by kernel_rfl) (by kernel_rfl) (fun _ _ _ h => h) (fun w' hk => (by kernel_rfl)) HK ?_
    refine t_q (n := 23) 15 (.pointer (some ⟨g, 0, none⟩)) rfl (by kernel_rfl) (by kernel_rfl) (fun _ _ _ h => h) (fun w' hk => (by kernel_rfl)) HK ?_
    refine t_q (n := 22) 17 (.pointer (some ⟨g1, 1, none⟩)) rfl (by kernel_rfl) (by kernel_rfl) (fun _ _ _ h => h) (fun w' hk => (by kernel_rfl)) HK ?_
    refine t_q (n := 21) 18 (.slice Aw L.length cw) rfl (by kernel_rfl) (by kernel_rfl) (fun _ _ _ h => h) (fun w' hk => (R_load (p := ⟨g1, 1, none⟩) (by kernel_rfl) (by kernel_rfl) (by kernel_rfl) (hk.cell (HV.cell (i := 0) (j := 1) rfl rfl)))) HK ?_
    refine t_q (n := 20) 19 (.int .i64 (L.length : Int)) rfl (by kernel_rfl) (by kernel_rfl) (fun _ _ _ h => h) (fun w' hk => (by kernel_rfl)) HK ?_
    refine t_c (n := 19) 16 (f := 12) (args := #[.pointer (some ⟨g, 0, none⟩)]) rfl (by kernel_rfl) (by kernel_rfl) (R_call #[.pointer (some ⟨g, 0, none⟩)] Tryd.func12 (by kernel_rfl) (by kernel_rfl) (by kernel_rfl)) ?_
    refine (dcount g c A ws n L _ (HS.old0 hz0) (HS.old0 hz1) (hr.old0 HS) hR hn).mono ?_
    rintro e W16 ⟨rfl, H_⟩
    refine ⟨_, rfl, HK.tr H_.kept.nil, ?_⟩
    replace HK := HK.tr H_.kept.nil
    replace HS : St W (owns []) W16 [blk g1 [.int .i64 n, .slice Aw L.length cw] 39] := HS.join (F := []) (G := []) H_
    clear H_
    refine t_q (n := 18) 20 (.bool true) rfl (by kernel_rfl) (by kernel_rfl) (fun _ _ _ h => h) (fun w' hk => (R_beq (b := ((L.length : Int) == (L.length : Int))) (by kernel_rfl) (beq_t (by omega)))) HK ?_
    refine t_q (n := 17) 21 (.bool true) rfl (by kernel_rfl) (by kernel_rfl) (fun _ _ _ h => h) (fun w' hk => (by kernel_rfl)) HK ?_
    refine t_q (n := 16) 22 (.bool true) rfl (by kernel_rfl) (by kernel_rfl) (fun _ _ _ h => h) (fun w' hk => (by kernel_rfl)) HK ?_
    refine t_q (n := 15) 23 (.pointer (some ⟨g, 0, none⟩)) rfl (by kernel_rfl) (by kernel_rfl) (fun _ _ _ h => h) (fun w' hk => (by kernel_rfl)) HK ?_
    refine t_q (n := 14) 24 (.int .i64 i) rfl (by kernel_rfl) (by kernel_rfl) (fun _ _ _ h => h) (fun w' hk => (by kernel_rfl)) HK ?_
    refine t_q (n := 13) 26 (.agg #[.int .i64 n, .slice Aw L.length cw]) rfl (by kernel_rfl) (by kernel_rfl) (fun _ _ _ h => h) (fun w' hk => (R_loadN (p := ⟨g1, 0, none⟩) [.int .i64 n, .slice Aw L.length cw] (by kernel_rfl) (by kernel_rfl) (by kernel_rfl) (by kernel_rfl) (two_at (hk.cell (HV.cell (i := 0) (j := 0) rfl rfl)) (hk.cell (HV.cell (i := 0) (j := 1) rfl rfl))))) HK ?_
    refine t_q (n := 12) 27 (.int .i64 i) rfl (by kernel_rfl) (by kernel_rfl) (fun _ _ _ h => h) (fun w' hk => (by kernel_rfl)) HK ?_
    refine t_c (n := 11) 25 (f := 23) (args := #[.pointer (some ⟨g, 0, none⟩), .int .i64 i]) rfl (by kernel_rfl) (by kernel_rfl) (R_call #[.pointer (some ⟨g, 0, none⟩), .int .i64 i] Tryd.func23 (by kernel_rfl) (by kernel_rfl) (by kernel_rfl)) ?_
    refine (dnext g c A ws n L i _ (HS.old0 hz0) (HS.old0 hz1) (hr.old0 HS) hR hn (hT.old0 HS)).mono ?_
    rintro e W17 ⟨rfl, H_⟩
    refine ⟨_, rfl, HK.tr H_.kept.nil, ?_⟩
    replace HK := HK.tr H_.kept.nil
    replace HS : St W (owns []) W17 [blk g1 [.int .i64 n, .slice Aw L.length cw] 39] := HS.join (F := []) (G := []) H_
    clear H_
    refine t_c (n := 10) 28 (f := 33) (args := #[.agg #[.int .i64 n, .slice Aw L.length cw], .int .i64 i]) rfl (by kernel_rfl) (by kernel_rfl) (R_call #[.agg #[.int .i64 n, .slice Aw L.length cw], .int .i64 i] Tryd.func33 (by kernel_rfl) (by kernel_rfl) (by kernel_rfl)) ?_
    refine (r3next Aw cw L n i _ (hw.old0 HS) (by omega)).mono ?_
    rintro e W18 ⟨rfl, H_⟩
    refine ⟨_, rfl, HK.tr H_.kept.nil, ?_⟩
    replace HK := HK.tr H_.kept.nil
    replace HS : St W (owns []) W18 [blk g1 [.int .i64 n, .slice Aw L.length cw] 39] := HS.join (F := []) (G := []) H_
    clear H_
    refine t_q (n := 9) 29 (.bool true) rfl (by kernel_rfl) (by kernel_rfl) (fun _ _ _ h => h) (fun w' hk => (R_beq (b := (nxt L i == nxt L i)) (by kernel_rfl) (beq_t (by omega)))) HK ?_
    refine t_q (n := 8) 30 (.bool true) rfl (by kernel_rfl) (by kernel_rfl) (fun _ _ _ h => h) (fun w' hk => (by kernel_rfl)) HK ?_
    refine t_q (n := 7) 31 (.bool true) rfl (by kernel_rfl) (by kernel_rfl) (fun _ _ _ h => h) (fun w' hk => (by kernel_rfl)) HK ?_
    refine t_q (n := 6) 32 (.pointer (some ⟨g, 0, none⟩)) rfl (by kernel_rfl) (by kernel_rfl) (fun _ _ _ h => h) (fun w' hk => (by kernel_rfl)) HK ?_
    refine t_q (n := 5) 34 (.pointer (some ⟨g1, 1, none⟩)) rfl (by kernel_rfl) (by kernel_rfl) (fun _ _ _ h => h) (fun w' hk => (by kernel_rfl)) HK ?_
    refine t_q (n := 4) 35 (.slice Aw L.length cw) rfl (by kernel_rfl) (by kernel_rfl) (fun _ _ _ h => h) (fun w' hk => (R_load (p := ⟨g1, 1, none⟩) (by kernel_rfl) (by kernel_rfl) (by kernel_rfl) (hk.cell (HV.cell (i := 0) (j := 1) rfl rfl)))) HK ?_
    refine t_c (n := 3) 33 (f := 24) (args := #[.pointer (some ⟨g, 0, none⟩)]) rfl (by kernel_rfl) (by kernel_rfl) (R_call #[.pointer (some ⟨g, 0, none⟩)] Tryd.func24 (by kernel_rfl) (by kernel_rfl) (by kernel_rfl)) ?_
    refine (dlist g c A ws n L _ (HS.old0 hz0) (HS.old0 hz1) (hr.old0 HS) hR hn (hT.old0 HS)).mono ?_
    rintro e W21 ⟨A19, c20, rfl, H_⟩
    refine ⟨_, rfl, HK.tr H_.kept.nil, ?_⟩
    replace HK := HK.tr H_.kept.nil
    replace HS : St W (owns []) W21 [row A19 L.length c20 (ci .i64 L) 3 1, blk g1 [.int .i64 n, .slice Aw L.length cw] 39] := HS.join (F := []) (G := [row A19 L.length c20 (ci .i64 L) 3 1]) H_
    clear H_
    refine t_c (n := 2) 36 (f := 21) (args := #[.slice A19 L.length c20, .slice Aw L.length cw]) rfl (by kernel_rfl) (by kernel_rfl) (R_call #[.slice A19 L.length c20, .slice Aw L.length cw] Tryd.func21 (by kernel_rfl) (by kernel_rfl) (by kernel_rfl)) ?_
    refine (r1same A19 Aw _ _ L L _ (Rd.row HS (i := 0) rfl) (by omega) (hw.old0 HS) (by omega)).mono ?_
    rintro e W22 ⟨rfl, H_⟩
    rw [decide_eq_true (rfl : L = L)]
    refine ⟨_, rfl, HK.tr H_.kept.nil, ?_⟩
    replace HK := HK.tr H_.kept.nil
    replace HS : St W (owns []) W22 [row A19 L.length c20 (ci .i64 L) 3 1, blk g1 [.int .i64 n, .slice Aw L.length cw] 39] := HS.join (F := []) (G := []) H_
    clear H_
    refine t_q (n := 1) 37 (.bool true) rfl (by kernel_rfl) (by kernel_rfl) (fun _ _ _ h => h) (fun w' hk => (by kernel_rfl)) HK ?_
    refine t_q (n := 0) 38 (.bool true) rfl (by kernel_rfl) (by kernel_rfl) (fun _ _ _ h => h) (fun w' hk => (by kernel_rfl)) HK ?_
    refine t_done (by kernel_rfl) ?_
    clear HV HK
    refine x_then ?_
    refine wp_ret ?_
    refine ret_ (.bool true) (by kernel_rfl) ?_
    replace HS := HS.drop1
    replace HS := HS.drop1
    exact ⟨rfl, HS⟩

set_option maxRecDepth 100000 in
set_option maxHeartbeats 1000000 in
theorem dawake (W : World) (hT : TabAt64 W) : Calls Tryd.prog 6 #[] W fun e W' => e = .returned (.bool true) ∧ St W (owns []) W' [] := by
  have HS : St W (owns []) W [] := St.start W _
  refine calls_enter [undef, undef, undef, undef, undef, undef, undef, undef, undef, undef, undef, undef, undef, undef, undef, undef, undef, undef, undef, undef, undef, undef, undef, undef, undef, undef, undef, undef, undef, undef, undef, undef, undef, undef, undef, undef, undef, undef] Tryd.func6 rfl (by kernel_rfl) ?_
  refine wp_seq ?_
  refine wp_region_lit ?_
  refine ql (.bool false) (by kernel_rfl) (by kernel_rfl) ?_
  refine wpList_nil ?_
  refine x_then ?_
  refine wp_seq ?_
  refine wp_region_lit ?_
  refine qc (f := 7) (args := #[.int .i64 70]) (by kernel_rfl) (R_call #[.int .i64 70] Tryd.func7 (by kernel_rfl) (by kernel_rfl) (by kernel_rfl)) ?_
  refine (dnew_ok 70 _ (by omega) (by omega)).mono ?_
  rintro e W6 ⟨g1, a2, c3, ws4, rfl, H_, hR5⟩
  refine ⟨_, rfl, ?_⟩
  replace HS : St W (owns []) W6 [blk g1 [.slice (some ⟨a2, 0, none⟩) ws4.length c3, .int .i64 70] 53, row (some ⟨a2, 0, none⟩) ws4.length c3 (ci .u64 ws4) 54 1] := HS.join (F := []) (G := [blk g1 [.slice (some ⟨a2, 0, none⟩) ws4.length c3, .int .i64 70] 53, row (some ⟨a2, 0, none⟩) ws4.length c3 (ci .u64 ws4) 54 1]) H_
  clear H_
  refine ql (.tuple #[.pointer (some ⟨g1, 0, none⟩), .int .i64 0]) (by kernel_rfl) (by kernel_rfl) ?_
  refine ql (.pointer (some ⟨g1, 0, none⟩)) (by kernel_rfl) (by kernel_rfl) ?_
  refine ql (.int .i64 0) (by kernel_rfl) (by kernel_rfl) ?_
  refine ql (.pointer (some ⟨g1, 0, none⟩)) (by kernel_rfl) (by kernel_rfl) ?_
  refine ql (.int .i64 0) (by kernel_rfl) (by kernel_rfl) ?_
  refine wpList_nil ?_
  refine x_then ?_
  refine wp_seq ?_
  refine wp_region_lit ?_
  refine ql (.pointer (some ⟨g1, 0, none⟩)) (by kernel_rfl) (by kernel_rfl) ?_
  refine qc (f := 8) (args := #[.pointer (some ⟨g1, 0, none⟩), .int .i64 3]) (by kernel_rfl) (R_call #[.pointer (some ⟨g1, 0, none⟩), .int .i64 3] Tryd.func8 (by kernel_rfl) (by kernel_rfl) (by kernel_rfl)) ?_
  refine (dadd_new g1 c3 (some ⟨a2, 0, none⟩) ws4 70 [] 3 _ _ (St.focus (F := [blk g1 [.slice (some ⟨a2, 0, none⟩) ws4.length c3, .int .i64 70] 53, row (some ⟨a2, 0, none⟩) ws4.length c3 (ci .u64 ws4) 54 1]) HS) hR5 (by decide) (by decide) (by decide) (by decide)).mono ?_
  rintro e W9 ⟨ws8, rfl, H_, hR7⟩
  replace hR7 : Rep ws8 70 [3] := hR7
  refine ⟨_, rfl, ?_⟩
  replace HS : St W (owns []) W9 [blk g1 [.slice (some ⟨a2, 0, none⟩) ws8.length c3, .int .i64 70] 53, row (some ⟨a2, 0, none⟩) ws8.length c3 (ci .u64 ws8) 54 1] := HS.join (F := [blk g1 [.slice (some ⟨a2, 0, none⟩) ws4.length c3, .int .i64 70] 53, row (some ⟨a2, 0, none⟩) ws4.length c3 (ci .u64 ws4) 54 1]) (G := [blk g1 [.slice (some ⟨a2, 0, none⟩) ws8.length c3, .int .i64 70] 53, row (some ⟨a2, 0, none⟩) ws8.length c3 (ci .u64 ws8) 54 1]) H_
  clear H_
  refine ql (.pointer (some ⟨g1, 0, none⟩)) (by kernel_rfl) (by kernel_rfl) ?_
  refine qc (f := 8) (args := #[.pointer (some ⟨g1, 0, none⟩), .int .i64 69]) (by kernel_rfl) (R_call #[.pointer (some ⟨g1, 0, none⟩), .int .i64 69] Tryd.func8 (by kernel_rfl) (by kernel_rfl) (by kernel_rfl)) ?_
  refine (dadd_new g1 c3 (some ⟨a2, 0, none⟩) ws8 70 [3] 69 _ _ (St.focus (F := [blk g1 [.slice (some ⟨a2, 0, none⟩) ws8.length c3, .int .i64 70] 53, row (some ⟨a2, 0, none⟩) ws8.length c3 (ci .u64 ws8) 54 1]) HS) hR7 (by decide) (by decide) (by decide) (by decide)).mono ?_
  rintro e W12 ⟨ws11, rfl, H_, hR10⟩
  replace hR10 : Rep ws11 70 [3, 69] := hR10
  refine ⟨_, rfl, ?_⟩
  replace HS : St W (owns []) W12 [blk g1 [.slice (some ⟨a2, 0, none⟩) ws11.length c3, .int .i64 70] 53, row (some ⟨a2, 0, none⟩) ws11.length c3 (ci .u64 ws11) 54 1] := HS.join (F := [blk g1 [.slice (some ⟨a2, 0, none⟩) ws8.length c3, .int .i64 70] 53, row (some ⟨a2, 0, none⟩) ws8.length c3 (ci .u64 ws8) 54 1]) (G := [blk g1 [.slice (some ⟨a2, 0, none⟩) ws11.length c3, .int .i64 70] 53, row (some ⟨a2, 0, none⟩) ws11.length c3 (ci .u64 ws11) 54 1]) H_
  clear H_
  refine ql (.pointer (some ⟨g1, 0, none⟩)) (by kernel_rfl) (by kernel_rfl) ?_
  refine qc (f := 8) (args := #[.pointer (some ⟨g1, 0, none⟩), .int .i64 70]) (by kernel_rfl) (R_call #[.pointer (some ⟨g1, 0, none⟩), .int .i64 70] Tryd.func8 (by kernel_rfl) (by kernel_rfl) (by kernel_rfl)) ?_
  refine (dadd_out g1 c3 (some ⟨a2, 0, none⟩) ws11 70 [3, 69] 70 _ _ (St.focus (F := [blk g1 [.slice (some ⟨a2, 0, none⟩) ws11.length c3, .int .i64 70] 53, row (some ⟨a2, 0, none⟩) ws11.length c3 (ci .u64 ws11) 54 1]) HS) hR10 (by decide) (by decide)).mono ?_
  rintro e W14 ⟨rfl, H_⟩
  refine ⟨_, rfl, ?_⟩
  replace HS : St W (owns []) W14 [blk g1 [.slice (some ⟨a2, 0, none⟩) ws11.length c3, .int .i64 70] 53, row (some ⟨a2, 0, none⟩) ws11.length c3 (ci .u64 ws11) 54 1] := HS.join (F := [blk g1 [.slice (some ⟨a2, 0, none⟩) ws11.length c3, .int .i64 70] 53, row (some ⟨a2, 0, none⟩) ws11.length c3 (ci .u64 ws11) 54 1]) (G := [blk g1 [.slice (some ⟨a2, 0, none⟩) ws11.length c3, .int .i64 70] 53, row (some ⟨a2, 0, none⟩) ws11.length c3 (ci .u64 ws11) 54 1]) H_
  clear H_
  refine ql (.bool true) (by kernel_rfl) (by kernel_rfl) ?_
  refine ql (.bool true) (by kernel_rfl) (by kernel_rfl) ?_
  refine ql (.bool false) (by kernel_rfl) (by kernel_rfl) ?_
  refine wpList_nil ?_
  refine x_then ?_
  refine wp_seq ?_
  refine wp_region_lit ?_
  refine ql (.int .i64 0) (by kernel_rfl) (by kernel_rfl) ?_
  refine ql (.bool true) (by kernel_rfl) (R_beq (b := ((0 : Int) == 0)) (by kernel_rfl) (by decide)) ?_
  refine ql (.bool true) (by kernel_rfl) (by kernel_rfl) ?_
  refine ql (.bool true) (by kernel_rfl) (by kernel_rfl) ?_
  refine ql (.bool true) (by kernel_rfl) (by kernel_rfl) ?_
  refine ql (.bool true) (by kernel_rfl) (by kernel_rfl) ?_
  refine ql (.bool true) (by kernel_rfl) (by kernel_rfl) ?_
  refine ql (.bool true) (by kernel_rfl) (by kernel_rfl) ?_
  refine ql (.bool true) (by kernel_rfl) (by kernel_rfl) ?_
  refine ql (.bool false) (by kernel_rfl) (by kernel_rfl) ?_
  refine ql (.bool true) (by kernel_rfl) (by kernel_rfl) ?_
  refine ql (.bool true) (by kernel_rfl) (by kernel_rfl) ?_
  refine ql (.bool true) (by kernel_rfl) (by kernel_rfl) ?_
  refine ql (.pointer (some ⟨g1, 0, none⟩)) (by kernel_rfl) (by kernel_rfl) ?_
  refine qc (f := 23) (args := #[.pointer (some ⟨g1, 0, none⟩), .int .i64 4]) (by kernel_rfl) (R_call #[.pointer (some ⟨g1, 0, none⟩), .int .i64 4] Tryd.func23 (by kernel_rfl) (by kernel_rfl) (by kernel_rfl)) ?_
  refine (dnext g1 c3 (some ⟨a2, 0, none⟩) ws11 70 ([3, 69]) 4 _ (HS.cell (i := 0) (j := 0) rfl rfl) (HS.cell (i := 0) (j := 1) rfl rfl) (Rd.row HS (i := 1) rfl) hR10 (by omega) (hT.old0 HS)).mono ?_
  rintro e W15 ⟨rfl, H_⟩
  rw [show nxt [3, 69] 4 = 69 by decide]
  refine ⟨_, rfl, ?_⟩
  replace HS : St W (owns []) W15 [blk g1 [.slice (some ⟨a2, 0, none⟩) ws11.length c3, .int .i64 70] 53, row (some ⟨a2, 0, none⟩) ws11.length c3 (ci .u64 ws11) 54 1] := HS.join (F := []) (G := []) H_
  clear H_
  refine ql (.bool true) (by kernel_rfl) (R_beq (b := ((69 : Int) == 69)) (by kernel_rfl) (by decide)) ?_
  refine ql (.bool true) (by kernel_rfl) (by kernel_rfl) ?_
  refine ql (.bool true) (by kernel_rfl) (by kernel_rfl) ?_
  refine ql (.pointer (some ⟨g1, 0, none⟩)) (by kernel_rfl) (by kernel_rfl) ?_
  refine qc (f := 12) (args := #[.pointer (some ⟨g1, 0, none⟩)]) (by kernel_rfl) (R_call #[.pointer (some ⟨g1, 0, none⟩)] Tryd.func12 (by kernel_rfl) (by kernel_rfl) (by kernel_rfl)) ?_
  refine (dcount g1 c3 (some ⟨a2, 0, none⟩) ws11 70 ([3, 69]) _ (HS.cell (i := 0) (j := 0) rfl rfl) (HS.cell (i := 0) (j := 1) rfl rfl) (Rd.row HS (i := 1) rfl) hR10 (by omega)).mono ?_
  rintro e W16 ⟨rfl, H_⟩
  rw [show (([3, 69] : List Int).length : Int) = 2 from rfl]
  refine ⟨_, rfl, ?_⟩
  replace HS : St W (owns []) W16 [blk g1 [.slice (some ⟨a2, 0, none⟩) ws11.length c3, .int .i64 70] 53, row (some ⟨a2, 0, none⟩) ws11.length c3 (ci .u64 ws11) 54 1] := HS.join (F := []) (G := []) H_
  clear H_
  refine ql (.bool true) (by kernel_rfl) (R_beq (b := ((2 : Int) == 2)) (by kernel_rfl) (by decide)) ?_
  refine ql (.bool true) (by kernel_rfl) (by kernel_rfl) ?_
  refine ql (.bool true) (by kernel_rfl) (by kernel_rfl) ?_
  refine wpList_nil ?_
  refine x_then ?_
  refine wp_ret ?_
  refine ret_ (.bool true) (by kernel_rfl) ?_
  replace HS := HS.drop1
  replace HS := HS.drop1
  exact ⟨rfl, HS⟩

end Go.Proofs.YtphhialimmhopaaDoor
