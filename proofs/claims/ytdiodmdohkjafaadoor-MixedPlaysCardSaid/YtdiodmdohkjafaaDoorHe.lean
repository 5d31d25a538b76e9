/- The law MixedPlays holds at every input. This text: the walks through the functions that the statement reaches. No condition but those in the statement. -/
import Derived.WalkKit
import Derived.StillTailTactics
import Derived.Deep.LoopGhost
import Derived.KernelRfl
import Derived.Deep.OwnRows
import Derived.Laws.OwnMore
import Derived.Laws.MakeOwn
import Derived.Maps.AppendAt
import Derived.OrdersHeld
import Derived.Test.YtdiodmdohkjafaaDoorProg
import Derived.Test.YtdiodmdohkjafaaDoorHa
import Derived.Test.YtdiodmdohkjafaaDoorHb
import Derived.Test.YtdiodmdohkjafaaDoorHc
import Derived.Test.YtdiodmdohkjafaaDoorHd
namespace Go.Proofs.YtdiodmdohkjafaaDoor
open Go Go.RowKit Go.Shelf Go.Proofs.YtdiodmdohkjafaaDoor.Hp
attribute [local irreducible] wpStill wpList Code.wp TA
set_option linter.unusedVariables false
set_option linter.unusedSimpArgs false
set_option maxRecDepth 100000 in
set_option maxHeartbeats 1000000 in
theorem r5do (A : Option Addr) (c : Nat) (L : List Int) (n : Int) (b : Bool) (B : Option Addr) (c2 : Nat) (M : List Int) (m : Int) (b2 : Bool) (kd i t : Int) (W : World) (M_ : Nat → Prop) (HS : St W M_ W [row A L.length c (ci .i64 L) 3 1, row B M.length c2 (ci .i64 M) 3 1]) (hsL : L.Pairwise (· < ·)) (hlL : ∀ x ∈ L, 0 ≤ x ∧ x < n) (hsM : M.Pairwise (· < ·)) (hlM : ∀ x ∈ M, 0 ≤ x ∧ x < m) (hbL : b = (b || decide (8 < L.length))) (hbM : b2 = (b2 || decide (8 < M.length))) (h0L : 0 ≤ n) (hnL : n ≤ 40000) (h0M : 0 ≤ m) (hnM : m ≤ 40000) : Calls Tryd.prog 7 #[.agg #[.int .i64 n, .slice A L.length c, .bool b], .agg #[.int .i64 m, .slice B M.length c2, .bool b2], .agg #[.int .i64 kd, .int .i64 i, .int .i64 t]] W fun e W' => ∃ A1 c1 A2 c3, e = .returned (.tuple #[.agg #[.int .i64 n, .slice A1 (zL n m kd i t L M).length c1, .bool (zb1 n m kd b b2 (zL n m kd i t L M))], .agg #[.int .i64 m, .slice A2 (zM n m kd i t L M).length c3, .bool (zb2 n m kd b b2 (zM n m kd i t L M))], .bool (zB n m kd i L M)]) ∧ St W M_ W' [row A1 ((zL n m kd i t L M).length) c1 (ci .i64 (zL n m kd i t L M)) 3 1, row A2 ((zM n m kd i t L M).length) c3 (ci .i64 (zM n m kd i t L M)) 3 1] := by
  have hlA := inr_len hsL hlL h0L
  have hlB := inr_len hsM hlM h0M
  refine calls_enter ((.agg #[.int .i64 n, .slice A L.length c, .bool b]) :: (.agg #[.int .i64 m, .slice B M.length c2, .bool b2]) :: (.agg #[.int .i64 kd, .int .i64 i, .int .i64 t]) :: undef :: undef :: undef :: undef :: undef :: undef :: undef :: undef :: undef :: undef :: undef :: undef :: undef :: undef :: undef :: undef :: undef :: undef :: undef :: undef :: undef :: undef :: undef :: undef :: undef :: undef :: undef :: undef :: undef :: undef :: undef :: undef :: undef :: undef :: undef :: undef :: undef :: undef :: undef :: undef :: undef :: undef :: undef :: undef :: undef :: undef :: undef :: undef :: undef :: undef :: undef :: undef :: undef :: undef :: undef :: undef :: undef :: undef :: undef :: undef :: undef :: undef :: []) Tryd.func7 rfl (by kernel_rfl) ?_
  refine wp_seq ?_
  refine wp_region_lit ?_
  refine kb HS [.int .i64 n, .slice A L.length c, .bool b] 32 (fun g => .pointer (some ⟨g, 0, none⟩)) (by kernel_rfl) (by kernel_rfl) ?_
  intro g1 W2 H_
  replace HS : St W M_ W2 [blk g1 [.int .i64 n, .slice A L.length c, .bool b] 32, row A L.length c (ci .i64 L) 3 1, row B M.length c2 (ci .i64 M) 3 1] := H_
  clear H_
  refine kb HS [.int .i64 m, .slice B M.length c2, .bool b2] 32 (fun g => .pointer (some ⟨g, 0, none⟩)) (by kernel_rfl) (by kernel_rfl) ?_
  intro g3 W4 H_
  replace HS : St W M_ W4 [blk g3 [.int .i64 m, .slice B M.length c2, .bool b2] 32, blk g1 [.int .i64 n, .slice A L.length c, .bool b] 32, row A L.length c (ci .i64 L) 3 1, row B M.length c2 (ci .i64 M) 3 1] := H_
  clear H_
  refine kb HS [.int .i64 kd, .int .i64 i, .int .i64 t] 36 (fun g => .pointer (some ⟨g, 0, none⟩)) (by kernel_rfl) (by kernel_rfl) ?_
  intro g5 W6 H_
  replace HS : St W M_ W6 [blk g5 [.int .i64 kd, .int .i64 i, .int .i64 t] 36, blk g3 [.int .i64 m, .slice B M.length c2, .bool b2] 32, blk g1 [.int .i64 n, .slice A L.length c, .bool b] 32, row A L.length c (ci .i64 L) 3 1, row B M.length c2 (ci .i64 M) 3 1] := H_
  clear H_
  refine kb HS [.int .i64 0, .slice none 0 0, .bool false] 32 (fun g => .pointer (some ⟨g, 0, none⟩)) (by kernel_rfl) (by kernel_rfl) ?_
  intro g7 W8 H_
  replace HS : St W M_ W8 [blk g7 [.int .i64 0, .slice none 0 0, .bool false] 32, blk g5 [.int .i64 kd, .int .i64 i, .int .i64 t] 36, blk g3 [.int .i64 m, .slice B M.length c2, .bool b2] 32, blk g1 [.int .i64 n, .slice A L.length c, .bool b] 32, row A L.length c (ci .i64 L) 3 1, row B M.length c2 (ci .i64 M) 3 1] := H_
  clear H_
  refine kb HS [.int .i64 0, .slice none 0 0, .bool false] 32 (fun g => .pointer (some ⟨g, 0, none⟩)) (by kernel_rfl) (by kernel_rfl) ?_
  intro g9 W10 H_
  replace HS : St W M_ W10 [blk g9 [.int .i64 0, .slice none 0 0, .bool false] 32, blk g7 [.int .i64 0, .slice none 0 0, .bool false] 32, blk g5 [.int .i64 kd, .int .i64 i, .int .i64 t] 36, blk g3 [.int .i64 m, .slice B M.length c2, .bool b2] 32, blk g1 [.int .i64 n, .slice A L.length c, .bool b] 32, row A L.length c (ci .i64 L) 3 1, row B M.length c2 (ci .i64 M) 3 1] := H_
  clear H_
  refine ql (.bool false) (by kernel_rfl) (by kernel_rfl) ?_
  refine wpList_nil ?_
  refine x_then ?_
  refine wp_seq ?_
  refine wp_region_lit ?_
  refine ql (.bool false) (by kernel_rfl) (by kernel_rfl) ?_
  refine wpList_nil ?_
  refine x_then ?_
  refine wp_seq ?_
  refine wp_seq ?_
  refine wp_region_lit ?_
  refine ql (.pointer (some ⟨g5, 0, none⟩)) (by kernel_rfl) (by kernel_rfl) ?_
  refine ql (.int .i64 kd) (by kernel_rfl) (R_load (p := ⟨g5, 0, none⟩) (by kernel_rfl) (by kernel_rfl) (by kernel_rfl) (HS.cell (i := 2) (j := 0) rfl rfl)) ?_
  refine wpList_nil ?_
  refine x_then ?_
  refine wp_block ?_
  refine wp_seq ?_
  refine wp_region_lit ?_
  by_cases hc11 : kd = (0 : Int)
  · skip
    refine ql (.bool true) (by kernel_rfl) (R_beq (b := (kd == (0 : Int))) (by kernel_rfl) (beq_t (hc11))) ?_
    refine ql (.bool true) (by kernel_rfl) (by kernel_rfl) ?_
    refine wpList_nil ?_
    refine x_then ?_
    refine wp_cond_true (by kernel_rfl) ?_
    refine wp_region_lit ?_
    refine ql (.agg #[.int .i64 n, .slice A L.length c, .bool b]) (by kernel_rfl) (R_loadN (p := ⟨g1, 0, none⟩) [.int .i64 n, .slice A L.length c, .bool b] (by kernel_rfl) (by kernel_rfl) (by kernel_rfl) (by kernel_rfl) (three_at (HS.cell (i := 4) (j := 0) rfl rfl) (HS.cell (i := 4) (j := 1) rfl rfl) (HS.cell (i := 4) (j := 2) rfl rfl))) ?_
    refine ql (.pointer (some ⟨g5, 1, none⟩)) (by kernel_rfl) (by kernel_rfl) ?_
    refine ql (.int .i64 i) (by kernel_rfl) (R_load (p := ⟨g5, 1, none⟩) (by kernel_rfl) (by kernel_rfl) (by kernel_rfl) (HS.cell (i := 2) (j := 1) rfl rfl)) ?_
    refine qc (f := 26) (args := #[.agg #[.int .i64 n, .slice A L.length c, .bool b], .int .i64 i]) (by kernel_rfl) (R_call #[.agg #[.int .i64 n, .slice A L.length c, .bool b], .int .i64 i] Tryd.func26 (by kernel_rfl) (by kernel_rfl) (by kernel_rfl)) ?_
    replace HS : St W M_ W10 [row A L.length c (ci .i64 L) 3 1, blk g9 [.int .i64 0, .slice none 0 0, .bool false] 32, blk g7 [.int .i64 0, .slice none 0 0, .bool false] 32, blk g5 [.int .i64 kd, .int .i64 i, .int .i64 t] 36, blk g3 [.int .i64 m, .slice B M.length c2, .bool b2] 32, blk g1 [.int .i64 n, .slice A L.length c, .bool b] 32, row B M.length c2 (ci .i64 M) 3 1] := HS.perm (perm_ [5, 0, 1, 2, 3, 4, 6] (by kernel_rfl) rfl)
    refine (r5add A c L n b i _ _ (St.focus (F := [row A L.length c (ci .i64 L) 3 1]) HS) (by omega)).mono ?_
    rintro e W14 ⟨A12, c13, rfl, H_⟩
    refine ⟨_, rfl, ?_⟩
    replace HS : St W M_ W14 [row A12 ((addL n L i).length) c13 (ci .i64 (addL n L i)) 3 1, blk g9 [.int .i64 0, .slice none 0 0, .bool false] 32, blk g7 [.int .i64 0, .slice none 0 0, .bool false] 32, blk g5 [.int .i64 kd, .int .i64 i, .int .i64 t] 36, blk g3 [.int .i64 m, .slice B M.length c2, .bool b2] 32, blk g1 [.int .i64 n, .slice A L.length c, .bool b] 32, row B M.length c2 (ci .i64 M) 3 1] := HS.join (F := [row A L.length c (ci .i64 L) 3 1]) (G := [row A12 ((addL n L i).length) c13 (ci .i64 (addL n L i)) 3 1]) H_
    clear H_
    refine ql (.tuple #[.agg #[.int .i64 n, .slice A12 ((addL n L i).length) c13, .bool (b || decide (8 < (addL n L i).length))], .bool (addB n L i)]) (by kernel_rfl) (by kernel_rfl) ?_
    refine ql (.agg #[.int .i64 n, .slice A12 ((addL n L i).length) c13, .bool (b || decide (8 < (addL n L i).length))]) (by kernel_rfl) (by kernel_rfl) ?_
    refine ql (.bool (addB n L i)) (by kernel_rfl) (by kernel_rfl) ?_
    refine ks (v := .agg #[.int .i64 n, .slice A12 ((addL n L i).length) c13, .bool (b || decide (8 < (addL n L i).length))]) HS 5 rfl (0) [.int .i64 n, .slice A12 ((addL n L i).length) c13, .bool (b || decide (8 < (addL n L i).length))] (by kernel_rfl) (by kernel_rfl) (by kernel_rfl) (by kernel_rfl) (by kernel_rfl) (one_ (by kernel_rfl)) (Nat.le_of_ble_eq_true rfl) rfl ?_
    intro W15 H_
    replace HS : St W M_ W15 [row A12 ((addL n L i).length) c13 (ci .i64 (addL n L i)) 3 1, blk g9 [.int .i64 0, .slice none 0 0, .bool false] 32, blk g7 [.int .i64 0, .slice none 0 0, .bool false] 32, blk g5 [.int .i64 kd, .int .i64 i, .int .i64 t] 36, blk g3 [.int .i64 m, .slice B M.length c2, .bool b2] 32, blk g1 [.int .i64 n, .slice A12 ((addL n L i).length) c13, .bool (b || decide (8 < (addL n L i).length))] 32, row B M.length c2 (ci .i64 M) 3 1] := H_
    clear H_
    refine ql (.bool (addB n L i)) (by kernel_rfl) (by kernel_rfl) ?_
    refine wpList_nil ?_
    refine x_inb ?_
    refine x_then ?_
    refine wp_seq ?_
    refine t_start HS (fun k_ => (blk g9 [.int .i64 0, .slice none 0 0, .bool false] 32).own k_ ∨ (blk g7 [.int .i64 0, .slice none 0 0, .bool false] 32).own k_) 6 (by kernel_rfl) rfl ?_
    intro W16 H_ HD_
    clear HD_
    replace HS : St W M_ W16 [row A12 ((addL n L i).length) c13 (ci .i64 (addL n L i)) 3 1, blk g9 [.int .i64 0, .slice none 0 0, .bool false] 32, blk g7 [.int .i64 0, .slice none 0 0, .bool false] 32, blk g5 [.int .i64 kd, .int .i64 i, .int .i64 t] 36, blk g3 [.int .i64 m, .slice B M.length c2, .bool b2] 32, blk g1 [.int .i64 n, .slice A12 ((addL n L i).length) c13, .bool (b || decide (8 < (addL n L i).length))] 32, row B M.length c2 (ci .i64 M) 3 1] := H_
    clear H_
    have HV := HS
    have HK := Kpt.refl (fun k_ => (blk g9 [.int .i64 0, .slice none 0 0, .bool false] 32).own k_ ∨ (blk g7 [.int .i64 0, .slice none 0 0, .bool false] 32).own k_) W16
    refine t_q (n := 5) 0 (.agg #[.int .i64 n, .slice A12 ((addL n L i).length) c13, .bool (b || decide (8 < (addL n L i).length))]) rfl (by kernel_rfl) (by kernel_rfl) (fun _ _ _ h => h) (fun w' hk => (R_loadN (p := ⟨g1, 0, none⟩) [.int .i64 n, .slice A12 ((addL n L i).length) c13, .bool (b || decide (8 < (addL n L i).length))] (by kernel_rfl) (by kernel_rfl) (by kernel_rfl) (by kernel_rfl) (three_at (hk.cellN (fun h_ => h_.elim (HV.sepB (a := 5) (b := 1) (by decide) rfl rfl) (HV.sepB (a := 5) (b := 2) (by decide) rfl rfl)) (HV.cell (i := 5) (j := 0) rfl rfl)) (hk.cellN (fun h_ => h_.elim (HV.sepB (a := 5) (b := 1) (by decide) rfl rfl) (HV.sepB (a := 5) (b := 2) (by decide) rfl rfl)) (HV.cell (i := 5) (j := 1) rfl rfl)) (hk.cellN (fun h_ => h_.elim (HV.sepB (a := 5) (b := 1) (by decide) rfl rfl) (HV.sepB (a := 5) (b := 2) (by decide) rfl rfl)) (HV.cell (i := 5) (j := 2) rfl rfl))))) HK ?_
    refine t_q (n := 4) 1 (.agg #[.int .i64 m, .slice B M.length c2, .bool b2]) rfl (by kernel_rfl) (by kernel_rfl) (fun _ _ _ h => h) (fun w' hk => (R_loadN (p := ⟨g3, 0, none⟩) [.int .i64 m, .slice B M.length c2, .bool b2] (by kernel_rfl) (by kernel_rfl) (by kernel_rfl) (by kernel_rfl) (three_at (hk.cellN (fun h_ => h_.elim (HV.sepB (a := 4) (b := 1) (by decide) rfl rfl) (HV.sepB (a := 4) (b := 2) (by decide) rfl rfl)) (HV.cell (i := 4) (j := 0) rfl rfl)) (hk.cellN (fun h_ => h_.elim (HV.sepB (a := 4) (b := 1) (by decide) rfl rfl) (HV.sepB (a := 4) (b := 2) (by decide) rfl rfl)) (HV.cell (i := 4) (j := 1) rfl rfl)) (hk.cellN (fun h_ => h_.elim (HV.sepB (a := 4) (b := 1) (by decide) rfl rfl) (HV.sepB (a := 4) (b := 2) (by decide) rfl rfl)) (HV.cell (i := 4) (j := 2) rfl rfl))))) HK ?_
    refine t_q (n := 3) 2 (.bool (addB n L i)) rfl (by kernel_rfl) (by kernel_rfl) (fun _ _ _ h => h) (fun w' hk => (by kernel_rfl)) HK ?_
    obtain ⟨W17, hrun_, H_, hk_⟩ := ex_ks (P := Tryd.prog) (ty := 0) (ps := "ref.go:66") (af := #[{ on := 0, ground := Go.Ground.data }, { on := 0, ground := Go.Ground.phase }, { on := 1, ground := (Go.Ground.textOnly Go.Departure.lateStores) }, { on := 2, ground := (Go.Ground.textOnly Go.Departure.lateStores) }]) (gd := none) (t := 32) (x := (Go.Operand.tmp 6)) (y := (Go.Operand.tmp 62)) (v := .agg #[.int .i64 n, .slice A12 ((addL n L i).length) c13, .bool (b || decide (8 < (addL n L i).length))]) HS 2 rfl (0) [.int .i64 n, .slice A12 ((addL n L i).length) c13, .bool (b || decide (8 < (addL n L i).length))] (by kernel_rfl) (by kernel_rfl) (by kernel_rfl) (by kernel_rfl) (one_ (by kernel_rfl)) (Nat.le_of_ble_eq_true rfl)
    replace HK := HK.trans hk_ (fun _ h_ => .inl (.inr (blk_own h_)))
    refine t_s (n := 2) 3 rfl (by kernel_rfl) (by kernel_rfl) hrun_ HK ?_
    clear hk_ hrun_
    replace HS : St W M_ W17 [row A12 ((addL n L i).length) c13 (ci .i64 (addL n L i)) 3 1, blk g9 [.int .i64 0, .slice none 0 0, .bool false] 32, blk g7 [.int .i64 n, .slice A12 ((addL n L i).length) c13, .bool (b || decide (8 < (addL n L i).length))] 32, blk g5 [.int .i64 kd, .int .i64 i, .int .i64 t] 36, blk g3 [.int .i64 m, .slice B M.length c2, .bool b2] 32, blk g1 [.int .i64 n, .slice A12 ((addL n L i).length) c13, .bool (b || decide (8 < (addL n L i).length))] 32, row B M.length c2 (ci .i64 M) 3 1] := H_
    clear H_
    obtain ⟨W18, hrun_, H_, hk_⟩ := ex_ks (P := Tryd.prog) (ty := 0) (ps := "ref.go:66") (af := #[{ on := 1, ground := Go.Ground.data }, { on := 3, ground := Go.Ground.chain }, { on := 0, ground := Go.Ground.phase }, { on := 1, ground := Go.Ground.phase }, { on := 2, ground := (Go.Ground.textOnly Go.Departure.lateStores) }, { on := 3, ground := Go.Ground.phase }]) (gd := none) (t := 32) (x := (Go.Operand.tmp 7)) (y := (Go.Operand.tmp 63)) (v := .agg #[.int .i64 m, .slice B M.length c2, .bool b2]) HS 1 rfl (0) [.int .i64 m, .slice B M.length c2, .bool b2] (by kernel_rfl) (by kernel_rfl) (by kernel_rfl) (by kernel_rfl) (one_ (by kernel_rfl)) (Nat.le_of_ble_eq_true rfl)
    replace HK := HK.trans hk_ (fun _ h_ => .inl (.inl (blk_own h_)))
    refine t_s (n := 1) 4 rfl (by kernel_rfl) (by kernel_rfl) hrun_ HK ?_
    clear hk_ hrun_
    replace HS : St W M_ W18 [row A12 ((addL n L i).length) c13 (ci .i64 (addL n L i)) 3 1, blk g9 [.int .i64 m, .slice B M.length c2, .bool b2] 32, blk g7 [.int .i64 n, .slice A12 ((addL n L i).length) c13, .bool (b || decide (8 < (addL n L i).length))] 32, blk g5 [.int .i64 kd, .int .i64 i, .int .i64 t] 36, blk g3 [.int .i64 m, .slice B M.length c2, .bool b2] 32, blk g1 [.int .i64 n, .slice A12 ((addL n L i).length) c13, .bool (b || decide (8 < (addL n L i).length))] 32, row B M.length c2 (ci .i64 M) 3 1] := H_
    clear H_
    refine t_q (n := 0) 5 (.bool (addB n L i)) rfl (by kernel_rfl) (by kernel_rfl) (fun _ _ _ h => h) (fun w' hk => (by kernel_rfl)) HK ?_
    refine t_done (by kernel_rfl) ?_
    clear HV HK
    refine x_then ?_
    refine wp_ret ?_
    refine ret_ (.tuple #[.agg #[.int .i64 n, .slice A12 ((addL n L i).length) c13, .bool (b || decide (8 < (addL n L i).length))], .agg #[.int .i64 m, .slice B M.length c2, .bool b2], .bool (addB n L i)]) (res3 rfl (oneRes_agg (p := ⟨g7, 0, none⟩) [.int .i64 n, .slice A12 ((addL n L i).length) c13, .bool (b || decide (8 < (addL n L i).length))] (by kernel_rfl) (by kernel_rfl) (by kernel_rfl) (by kernel_rfl) (HS.cellsN (i := 2) rfl)) (oneRes_agg (p := ⟨g9, 0, none⟩) [.int .i64 m, .slice B M.length c2, .bool b2] (by kernel_rfl) (by kernel_rfl) (by kernel_rfl) (by kernel_rfl) (HS.cellsN (i := 1) rfl)) (oneRes_t (by kernel_rfl))) ?_
    replace HS : St W M_ W18 [row A12 ((addL n L i).length) c13 (ci .i64 (addL n L i)) 3 1, row B M.length c2 (ci .i64 M) 3 1] := St.tail (F := [blk g9 [.int .i64 m, .slice B M.length c2, .bool b2] 32, blk g7 [.int .i64 n, .slice A12 ((addL n L i).length) c13, .bool (b || decide (8 < (addL n L i).length))] 32, blk g5 [.int .i64 kd, .int .i64 i, .int .i64 t] 36, blk g3 [.int .i64 m, .slice B M.length c2, .bool b2] 32, blk g1 [.int .i64 n, .slice A12 ((addL n L i).length) c13, .bool (b || decide (8 < (addL n L i).length))] 32]) (HS.perm (perm_ [1, 2, 3, 4, 5, 0, 6] (by kernel_rfl) rfl))
    have ezL : zL n m kd i t L M = (addL n L i) := by unfold zL; rw [if_pos (show kd = 0 by omega)]
    have ezM : zM n m kd i t L M = (M) := by unfold zM; rw [if_neg (show ¬ kd = 1 by omega), if_neg (show ¬ kd = 3 by omega), if_neg (show ¬ kd = 5 by omega)]
    have ezB : zB n m kd i L M = (addB n L i) := by unfold zB; rw [if_pos (show kd = 0 by omega)]
    have ez1 : zb1 n m kd b b2 (zL n m kd i t L M) = (b || decide (8 < (addL n L i).length)) := by rw [ezL]; exact zb1_n (by omega)
    have ez2 : zb2 n m kd b b2 (zM n m kd i t L M) = b2 := by rw [ezM, zb2_n (by omega)]; exact hbM.symm
    exact ⟨_, _, _, _, by rw [ez1, ez2, ezL, ezM, ezB], by rw [ezL, ezM]; exact HS⟩
  · skip
    refine ql (.bool false) (by kernel_rfl) (R_beq (b := (kd == (0 : Int))) (by kernel_rfl) (beq_f (hc11))) ?_
    refine ql (.bool false) (by kernel_rfl) (by kernel_rfl) ?_
    refine wpList_nil ?_
    refine x_then ?_
    refine wp_cond_false (by kernel_rfl) ?_
    refine wp_seq ?_
    refine wp_region_lit ?_
    by_cases hc19 : kd = (1 : Int)
    · skip
      refine ql (.bool true) (by kernel_rfl) (R_beq (b := (kd == (1 : Int))) (by kernel_rfl) (beq_t (hc19))) ?_
      refine ql (.bool true) (by kernel_rfl) (by kernel_rfl) ?_
      refine wpList_nil ?_
      refine x_then ?_
      refine wp_cond_true (by kernel_rfl) ?_
      refine wp_region_lit ?_
      refine ql (.agg #[.int .i64 m, .slice B M.length c2, .bool b2]) (by kernel_rfl) (R_loadN (p := ⟨g3, 0, none⟩) [.int .i64 m, .slice B M.length c2, .bool b2] (by kernel_rfl) (by kernel_rfl) (by kernel_rfl) (by kernel_rfl) (three_at (HS.cell (i := 3) (j := 0) rfl rfl) (HS.cell (i := 3) (j := 1) rfl rfl) (HS.cell (i := 3) (j := 2) rfl rfl))) ?_
      refine ql (.pointer (some ⟨g5, 1, none⟩)) (by kernel_rfl) (by kernel_rfl) ?_
      refine ql (.int .i64 i) (by kernel_rfl) (R_load (p := ⟨g5, 1, none⟩) (by kernel_rfl) (by kernel_rfl) (by kernel_rfl) (HS.cell (i := 2) (j := 1) rfl rfl)) ?_
      refine qc (f := 26) (args := #[.agg #[.int .i64 m, .slice B M.length c2, .bool b2], .int .i64 i]) (by kernel_rfl) (R_call #[.agg #[.int .i64 m, .slice B M.length c2, .bool b2], .int .i64 i] Tryd.func26 (by kernel_rfl) (by kernel_rfl) (by kernel_rfl)) ?_
      replace HS : St W M_ W10 [row B M.length c2 (ci .i64 M) 3 1, blk g9 [.int .i64 0, .slice none 0 0, .bool false] 32, blk g7 [.int .i64 0, .slice none 0 0, .bool false] 32, blk g5 [.int .i64 kd, .int .i64 i, .int .i64 t] 36, blk g3 [.int .i64 m, .slice B M.length c2, .bool b2] 32, blk g1 [.int .i64 n, .slice A L.length c, .bool b] 32, row A L.length c (ci .i64 L) 3 1] := HS.perm (perm_ [6, 0, 1, 2, 3, 4, 5] (by kernel_rfl) rfl)
      refine (r5add B c2 M m b2 i _ _ (St.focus (F := [row B M.length c2 (ci .i64 M) 3 1]) HS) (by omega)).mono ?_
      rintro e W22 ⟨A20, c21, rfl, H_⟩
      refine ⟨_, rfl, ?_⟩
      replace HS : St W M_ W22 [row A20 ((addL m M i).length) c21 (ci .i64 (addL m M i)) 3 1, blk g9 [.int .i64 0, .slice none 0 0, .bool false] 32, blk g7 [.int .i64 0, .slice none 0 0, .bool false] 32, blk g5 [.int .i64 kd, .int .i64 i, .int .i64 t] 36, blk g3 [.int .i64 m, .slice B M.length c2, .bool b2] 32, blk g1 [.int .i64 n, .slice A L.length c, .bool b] 32, row A L.length c (ci .i64 L) 3 1] := HS.join (F := [row B M.length c2 (ci .i64 M) 3 1]) (G := [row A20 ((addL m M i).length) c21 (ci .i64 (addL m M i)) 3 1]) H_
      clear H_
      refine ql (.tuple #[.agg #[.int .i64 m, .slice A20 ((addL m M i).length) c21, .bool (b2 || decide (8 < (addL m M i).length))], .bool (addB m M i)]) (by kernel_rfl) (by kernel_rfl) ?_
      refine ql (.agg #[.int .i64 m, .slice A20 ((addL m M i).length) c21, .bool (b2 || decide (8 < (addL m M i).length))]) (by kernel_rfl) (by kernel_rfl) ?_
      refine ql (.bool (addB m M i)) (by kernel_rfl) (by kernel_rfl) ?_
      refine ks (v := .agg #[.int .i64 m, .slice A20 ((addL m M i).length) c21, .bool (b2 || decide (8 < (addL m M i).length))]) HS 4 rfl (0) [.int .i64 m, .slice A20 ((addL m M i).length) c21, .bool (b2 || decide (8 < (addL m M i).length))] (by kernel_rfl) (by kernel_rfl) (by kernel_rfl) (by kernel_rfl) (by kernel_rfl) (one_ (by kernel_rfl)) (Nat.le_of_ble_eq_true rfl) rfl ?_
      intro W23 H_
      replace HS : St W M_ W23 [row A20 ((addL m M i).length) c21 (ci .i64 (addL m M i)) 3 1, blk g9 [.int .i64 0, .slice none 0 0, .bool false] 32, blk g7 [.int .i64 0, .slice none 0 0, .bool false] 32, blk g5 [.int .i64 kd, .int .i64 i, .int .i64 t] 36, blk g3 [.int .i64 m, .slice A20 ((addL m M i).length) c21, .bool (b2 || decide (8 < (addL m M i).length))] 32, blk g1 [.int .i64 n, .slice A L.length c, .bool b] 32, row A L.length c (ci .i64 L) 3 1] := H_
      clear H_
      refine ql (.bool (addB m M i)) (by kernel_rfl) (by kernel_rfl) ?_
      refine wpList_nil ?_
      refine x_inb ?_
      refine x_then ?_
      refine wp_seq ?_
      refine t_start HS (fun k_ => (blk g9 [.int .i64 0, .slice none 0 0, .bool false] 32).own k_ ∨ (blk g7 [.int .i64 0, .slice none 0 0, .bool false] 32).own k_) 6 (by kernel_rfl) rfl ?_
      intro W24 H_ HD_
      clear HD_
      replace HS : St W M_ W24 [row A20 ((addL m M i).length) c21 (ci .i64 (addL m M i)) 3 1, blk g9 [.int .i64 0, .slice none 0 0, .bool false] 32, blk g7 [.int .i64 0, .slice none 0 0, .bool false] 32, blk g5 [.int .i64 kd, .int .i64 i, .int .i64 t] 36, blk g3 [.int .i64 m, .slice A20 ((addL m M i).length) c21, .bool (b2 || decide (8 < (addL m M i).length))] 32, blk g1 [.int .i64 n, .slice A L.length c, .bool b] 32, row A L.length c (ci .i64 L) 3 1] := H_
      clear H_
      have HV := HS
      have HK := Kpt.refl (fun k_ => (blk g9 [.int .i64 0, .slice none 0 0, .bool false] 32).own k_ ∨ (blk g7 [.int .i64 0, .slice none 0 0, .bool false] 32).own k_) W24
      refine t_q (n := 5) 0 (.agg #[.int .i64 n, .slice A L.length c, .bool b]) rfl (by kernel_rfl) (by kernel_rfl) (fun _ _ _ h => h) (fun w' hk => (R_loadN (p := ⟨g1, 0, none⟩) [.int .i64 n, .slice A L.length c, .bool b] (by kernel_rfl) (by kernel_rfl) (by kernel_rfl) (by kernel_rfl) (three_at (hk.cellN (fun h_ => h_.elim (HV.sepB (a := 5) (b := 1) (by decide) rfl rfl) (HV.sepB (a := 5) (b := 2) (by decide) rfl rfl)) (HV.cell (i := 5) (j := 0) rfl rfl)) (hk.cellN (fun h_ => h_.elim (HV.sepB (a := 5) (b := 1) (by decide) rfl rfl) (HV.sepB (a := 5) (b := 2) (by decide) rfl rfl)) (HV.cell (i := 5) (j := 1) rfl rfl)) (hk.cellN (fun h_ => h_.elim (HV.sepB (a := 5) (b := 1) (by decide) rfl rfl) (HV.sepB (a := 5) (b := 2) (by decide) rfl rfl)) (HV.cell (i := 5) (j := 2) rfl rfl))))) HK ?_
      refine t_q (n := 4) 1 (.agg #[.int .i64 m, .slice A20 ((addL m M i).length) c21, .bool (b2 || decide (8 < (addL m M i).length))]) rfl (by kernel_rfl) (by kernel_rfl) (fun _ _ _ h => h) (fun w' hk => (R_loadN (p := ⟨g3, 0, none⟩) [.int .i64 m, .slice A20 ((addL m M i).length) c21, .bool (b2 || decide (8 < (addL m M i).length))] (by kernel_rfl) (by kernel_rfl) (by kernel_rfl) (by kernel_rfl) (three_at (hk.cellN (fun h_ => h_.elim (HV.sepB (a := 4) (b := 1) (by decide) rfl rfl) (HV.sepB (a := 4) (b := 2) (by decide) rfl rfl)) (HV.cell (i := 4) (j := 0) rfl rfl)) (hk.cellN (fun h_ => h_.elim (HV.sepB (a := 4) (b := 1) (by decide) rfl rfl) (HV.sepB (a := 4) (b := 2) (by decide) rfl rfl)) (HV.cell (i := 4) (j := 1) rfl rfl)) (hk.cellN (fun h_ => h_.elim (HV.sepB (a := 4) (b := 1) (by decide) rfl rfl) (HV.sepB (a := 4) (b := 2) (by decide) rfl rfl)) (HV.cell (i := 4) (j := 2) rfl rfl))))) HK ?_
      refine t_q (n := 3) 2 (.bool (addB m M i)) rfl (by kernel_rfl) (by kernel_rfl) (fun _ _ _ h => h) (fun w' hk => (by kernel_rfl)) HK ?_
      obtain ⟨W25, hrun_, H_, hk_⟩ := ex_ks (P := Tryd.prog) (ty := 0) (ps := "ref.go:66") (af := #[{ on := 0, ground := Go.Ground.data }, { on := 0, ground := Go.Ground.phase }, { on := 1, ground := (Go.Ground.textOnly Go.Departure.lateStores) }, { on := 2, ground := (Go.Ground.textOnly Go.Departure.lateStores) }]) (gd := none) (t := 32) (x := (Go.Operand.tmp 6)) (y := (Go.Operand.tmp 62)) (v := .agg #[.int .i64 n, .slice A L.length c, .bool b]) HS 2 rfl (0) [.int .i64 n, .slice A L.length c, .bool b] (by kernel_rfl) (by kernel_rfl) (by kernel_rfl) (by kernel_rfl) (one_ (by kernel_rfl)) (Nat.le_of_ble_eq_true rfl)
      replace HK := HK.trans hk_ (fun _ h_ => .inl (.inr (blk_own h_)))
      refine t_s (n := 2) 3 rfl (by kernel_rfl) (by kernel_rfl) hrun_ HK ?_
      clear hk_ hrun_
      replace HS : St W M_ W25 [row A20 ((addL m M i).length) c21 (ci .i64 (addL m M i)) 3 1, blk g9 [.int .i64 0, .slice none 0 0, .bool false] 32, blk g7 [.int .i64 n, .slice A L.length c, .bool b] 32, blk g5 [.int .i64 kd, .int .i64 i, .int .i64 t] 36, blk g3 [.int .i64 m, .slice A20 ((addL m M i).length) c21, .bool (b2 || decide (8 < (addL m M i).length))] 32, blk g1 [.int .i64 n, .slice A L.length c, .bool b] 32, row A L.length c (ci .i64 L) 3 1] := H_
      clear H_
      obtain ⟨W26, hrun_, H_, hk_⟩ := ex_ks (P := Tryd.prog) (ty := 0) (ps := "ref.go:66") (af := #[{ on := 1, ground := Go.Ground.data }, { on := 3, ground := Go.Ground.chain }, { on := 0, ground := Go.Ground.phase }, { on := 1, ground := Go.Ground.phase }, { on := 2, ground := (Go.Ground.textOnly Go.Departure.lateStores) }, { on := 3, ground := Go.Ground.phase }]) (gd := none) (t := 32) (x := (Go.Operand.tmp 7)) (y := (Go.Operand.tmp 63)) (v := .agg #[.int .i64 m, .slice A20 ((addL m M i).length) c21, .bool (b2 || decide (8 < (addL m M i).length))]) HS 1 rfl (0) [.int .i64 m, .slice A20 ((addL m M i).length) c21, .bool (b2 || decide (8 < (addL m M i).length))] (by kernel_rfl) (by kernel_rfl) (by kernel_rfl) (by kernel_rfl) (one_ (by kernel_rfl)) (Nat.le_of_ble_eq_true rfl)
      replace HK := HK.trans hk_ (fun _ h_ => .inl (.inl (blk_own h_)))
      refine t_s (n := 1) 4 rfl (by kernel_rfl) (by kernel_rfl) hrun_ HK ?_
      clear hk_ hrun_
      replace HS : St W M_ W26 [row A20 ((addL m M i).length) c21 (ci .i64 (addL m M i)) 3 1, blk g9 [.int .i64 m, .slice A20 ((addL m M i).length) c21, .bool (b2 || decide (8 < (addL m M i).length))] 32, blk g7 [.int .i64 n, .slice A L.length c, .bool b] 32, blk g5 [.int .i64 kd, .int .i64 i, .int .i64 t] 36, blk g3 [.int .i64 m, .slice A20 ((addL m M i).length) c21, .bool (b2 || decide (8 < (addL m M i).length))] 32, blk g1 [.int .i64 n, .slice A L.length c, .bool b] 32, row A L.length c (ci .i64 L) 3 1] := H_
      clear H_
      refine t_q (n := 0) 5 (.bool (addB m M i)) rfl (by kernel_rfl) (by kernel_rfl) (fun _ _ _ h => h) (fun w' hk => (by kernel_rfl)) HK ?_
      refine t_done (by kernel_rfl) ?_
      clear HV HK
      refine x_then ?_
      refine wp_ret ?_
      refine ret_ (.tuple #[.agg #[.int .i64 n, .slice A L.length c, .bool b], .agg #[.int .i64 m, .slice A20 ((addL m M i).length) c21, .bool (b2 || decide (8 < (addL m M i).length))], .bool (addB m M i)]) (res3 rfl (oneRes_agg (p := ⟨g7, 0, none⟩) [.int .i64 n, .slice A L.length c, .bool b] (by kernel_rfl) (by kernel_rfl) (by kernel_rfl) (by kernel_rfl) (HS.cellsN (i := 2) rfl)) (oneRes_agg (p := ⟨g9, 0, none⟩) [.int .i64 m, .slice A20 ((addL m M i).length) c21, .bool (b2 || decide (8 < (addL m M i).length))] (by kernel_rfl) (by kernel_rfl) (by kernel_rfl) (by kernel_rfl) (HS.cellsN (i := 1) rfl)) (oneRes_t (by kernel_rfl))) ?_
      replace HS : St W M_ W26 [row A L.length c (ci .i64 L) 3 1, row A20 ((addL m M i).length) c21 (ci .i64 (addL m M i)) 3 1] := St.tail (F := [blk g9 [.int .i64 m, .slice A20 ((addL m M i).length) c21, .bool (b2 || decide (8 < (addL m M i).length))] 32, blk g7 [.int .i64 n, .slice A L.length c, .bool b] 32, blk g5 [.int .i64 kd, .int .i64 i, .int .i64 t] 36, blk g3 [.int .i64 m, .slice A20 ((addL m M i).length) c21, .bool (b2 || decide (8 < (addL m M i).length))] 32, blk g1 [.int .i64 n, .slice A L.length c, .bool b] 32]) (HS.perm (perm_ [1, 2, 3, 4, 5, 6, 0] (by kernel_rfl) rfl))
      have ezL : zL n m kd i t L M = (L) := by unfold zL; rw [if_neg (show ¬ kd = 0 by omega), if_neg (show ¬ kd = 2 by omega), if_neg (show ¬ kd = 4 by omega)]
      have ezM : zM n m kd i t L M = (addL m M i) := by unfold zM; rw [if_pos (show kd = 1 by omega)]
      have ezB : zB n m kd i L M = (addB m M i) := by unfold zB; rw [if_neg (show ¬ kd = 0 by omega), if_pos (show kd = 1 by omega)]
      have ez1 : zb1 n m kd b b2 (zL n m kd i t L M) = b := by rw [ezL, zb1_n (by omega)]; exact hbL.symm
      have ez2 : zb2 n m kd b b2 (zM n m kd i t L M) = (b2 || decide (8 < (addL m M i).length)) := by rw [ezM]; exact zb2_n (by omega)
      exact ⟨_, _, _, _, by rw [ez1, ez2, ezL, ezM, ezB], by rw [ezL, ezM]; exact HS⟩
    · skip
      refine ql (.bool false) (by kernel_rfl) (R_beq (b := (kd == (1 : Int))) (by kernel_rfl) (beq_f (hc19))) ?_
      refine ql (.bool false) (by kernel_rfl) (by kernel_rfl) ?_
      refine wpList_nil ?_
      refine x_then ?_
      refine wp_cond_false (by kernel_rfl) ?_
      refine wp_seq ?_
      refine wp_region_lit ?_
      by_cases hc27 : kd = (2 : Int)
      · skip
        refine ql (.bool true) (by kernel_rfl) (R_beq (b := (kd == (2 : Int))) (by kernel_rfl) (beq_t (hc27))) ?_
        refine ql (.bool true) (by kernel_rfl) (by kernel_rfl) ?_
        refine wpList_nil ?_
        refine x_then ?_
        refine wp_cond_true (by kernel_rfl) ?_
        refine wp_region_lit ?_
        refine ql (.agg #[.int .i64 n, .slice A L.length c, .bool b]) (by kernel_rfl) (R_loadN (p := ⟨g1, 0, none⟩) [.int .i64 n, .slice A L.length c, .bool b] (by kernel_rfl) (by kernel_rfl) (by kernel_rfl) (by kernel_rfl) (three_at (HS.cell (i := 4) (j := 0) rfl rfl) (HS.cell (i := 4) (j := 1) rfl rfl) (HS.cell (i := 4) (j := 2) rfl rfl))) ?_
        refine ql (.agg #[.int .i64 m, .slice B M.length c2, .bool b2]) (by kernel_rfl) (R_loadN (p := ⟨g3, 0, none⟩) [.int .i64 m, .slice B M.length c2, .bool b2] (by kernel_rfl) (by kernel_rfl) (by kernel_rfl) (by kernel_rfl) (three_at (HS.cell (i := 3) (j := 0) rfl rfl) (HS.cell (i := 3) (j := 1) rfl rfl) (HS.cell (i := 3) (j := 2) rfl rfl))) ?_
        refine qc (f := 27) (args := #[.agg #[.int .i64 n, .slice A L.length c, .bool b], .agg #[.int .i64 m, .slice B M.length c2, .bool b2]]) (by kernel_rfl) (R_call #[.agg #[.int .i64 n, .slice A L.length c, .bool b], .agg #[.int .i64 m, .slice B M.length c2, .bool b2]] Tryd.func27 (by kernel_rfl) (by kernel_rfl) (by kernel_rfl)) ?_
        replace HS : St W M_ W10 [row A L.length c (ci .i64 L) 3 1, row B M.length c2 (ci .i64 M) 3 1, blk g9 [.int .i64 0, .slice none 0 0, .bool false] 32, blk g7 [.int .i64 0, .slice none 0 0, .bool false] 32, blk g5 [.int .i64 kd, .int .i64 i, .int .i64 t] 36, blk g3 [.int .i64 m, .slice B M.length c2, .bool b2] 32, blk g1 [.int .i64 n, .slice A L.length c, .bool b] 32] := HS.perm (perm_ [5, 6, 0, 1, 2, 3, 4] (by kernel_rfl) rfl)
        refine (r5or A c L n b B c2 M m b2 _ _ (St.focus (F := [row A L.length c (ci .i64 L) 3 1, row B M.length c2 (ci .i64 M) 3 1]) HS) (by omega) (by omega) hsM hlM hbL).mono ?_
        rintro e W30 ⟨A28, c29, rfl, H_⟩
        refine ⟨_, rfl, ?_⟩
        replace HS : St W M_ W30 [row A28 ((if n = m then uni L M else L).length) c29 (ci .i64 (if n = m then uni L M else L)) 3 1, row B M.length c2 (ci .i64 M) 3 1, blk g9 [.int .i64 0, .slice none 0 0, .bool false] 32, blk g7 [.int .i64 0, .slice none 0 0, .bool false] 32, blk g5 [.int .i64 kd, .int .i64 i, .int .i64 t] 36, blk g3 [.int .i64 m, .slice B M.length c2, .bool b2] 32, blk g1 [.int .i64 n, .slice A L.length c, .bool b] 32] := HS.join (F := [row A L.length c (ci .i64 L) 3 1, row B M.length c2 (ci .i64 M) 3 1]) (G := [row A28 ((if n = m then uni L M else L).length) c29 (ci .i64 (if n = m then uni L M else L)) 3 1, row B M.length c2 (ci .i64 M) 3 1]) H_
        clear H_
        refine ql (.tuple #[.agg #[.int .i64 n, .slice A28 ((if n = m then uni L M else L).length) c29, .bool (b || (decide (n = m) && b2) || decide (8 < (if n = m then uni L M else L).length))], .bool (if n = m then newB L M else false)]) (by kernel_rfl) (by kernel_rfl) ?_
        refine ql (.agg #[.int .i64 n, .slice A28 ((if n = m then uni L M else L).length) c29, .bool (b || (decide (n = m) && b2) || decide (8 < (if n = m then uni L M else L).length))]) (by kernel_rfl) (by kernel_rfl) ?_
        refine ql (.bool (if n = m then newB L M else false)) (by kernel_rfl) (by kernel_rfl) ?_
        refine ks (v := .agg #[.int .i64 n, .slice A28 ((if n = m then uni L M else L).length) c29, .bool (b || (decide (n = m) && b2) || decide (8 < (if n = m then uni L M else L).length))]) HS 6 rfl (0) [.int .i64 n, .slice A28 ((if n = m then uni L M else L).length) c29, .bool (b || (decide (n = m) && b2) || decide (8 < (if n = m then uni L M else L).length))] (by kernel_rfl) (by kernel_rfl) (by kernel_rfl) (by kernel_rfl) (by kernel_rfl) (one_ (by kernel_rfl)) (Nat.le_of_ble_eq_true rfl) rfl ?_
        intro W31 H_
        replace HS : St W M_ W31 [row A28 ((if n = m then uni L M else L).length) c29 (ci .i64 (if n = m then uni L M else L)) 3 1, row B M.length c2 (ci .i64 M) 3 1, blk g9 [.int .i64 0, .slice none 0 0, .bool false] 32, blk g7 [.int .i64 0, .slice none 0 0, .bool false] 32, blk g5 [.int .i64 kd, .int .i64 i, .int .i64 t] 36, blk g3 [.int .i64 m, .slice B M.length c2, .bool b2] 32, blk g1 [.int .i64 n, .slice A28 ((if n = m then uni L M else L).length) c29, .bool (b || (decide (n = m) && b2) || decide (8 < (if n = m then uni L M else L).length))] 32] := H_
        clear H_
        refine ql (.bool (if n = m then newB L M else false)) (by kernel_rfl) (by kernel_rfl) ?_
        refine wpList_nil ?_
        refine x_inb ?_
        refine x_then ?_
        refine wp_seq ?_
        refine t_start HS (fun k_ => (blk g9 [.int .i64 0, .slice none 0 0, .bool false] 32).own k_ ∨ (blk g7 [.int .i64 0, .slice none 0 0, .bool false] 32).own k_) 6 (by kernel_rfl) rfl ?_
        intro W32 H_ HD_
        clear HD_
        replace HS : St W M_ W32 [row A28 ((if n = m then uni L M else L).length) c29 (ci .i64 (if n = m then uni L M else L)) 3 1, row B M.length c2 (ci .i64 M) 3 1, blk g9 [.int .i64 0, .slice none 0 0, .bool false] 32, blk g7 [.int .i64 0, .slice none 0 0, .bool false] 32, blk g5 [.int .i64 kd, .int .i64 i, .int .i64 t] 36, blk g3 [.int .i64 m, .slice B M.length c2, .bool b2] 32, blk g1 [.int .i64 n, .slice A28 ((if n = m then uni L M else L).length) c29, .bool (b || (decide (n = m) && b2) || decide (8 < (if n = m then uni L M else L).length))] 32] := H_
        clear H_
        have HV := HS
        have HK := Kpt.refl (fun k_ => (blk g9 [.int .i64 0, .slice none 0 0, .bool false] 32).own k_ ∨ (blk g7 [.int .i64 0, .slice none 0 0, .bool false] 32).own k_) W32
        refine t_q (n := 5) 0 (.agg #[.int .i64 n, .slice A28 ((if n = m then uni L M else L).length) c29, .bool (b || (decide (n = m) && b2) || decide (8 < (if n = m then uni L M else L).length))]) rfl (by kernel_rfl) (by kernel_rfl) (fun _ _ _ h => h) (fun w' hk => (R_loadN (p := ⟨g1, 0, none⟩) [.int .i64 n, .slice A28 ((if n = m then uni L M else L).length) c29, .bool (b || (decide (n = m) && b2) || decide (8 < (if n = m then uni L M else L).length))] (by kernel_rfl) (by kernel_rfl) (by kernel_rfl) (by kernel_rfl) (three_at (hk.cellN (fun h_ => h_.elim (HV.sepB (a := 6) (b := 2) (by decide) rfl rfl) (HV.sepB (a := 6) (b := 3) (by decide) rfl rfl)) (HV.cell (i := 6) (j := 0) rfl rfl)) (hk.cellN (fun h_ => h_.elim (HV.sepB (a := 6) (b := 2) (by decide) rfl rfl) (HV.sepB (a := 6) (b := 3) (by decide) rfl rfl)) (HV.cell (i := 6) (j := 1) rfl rfl)) (hk.cellN (fun h_ => h_.elim (HV.sepB (a := 6) (b := 2) (by decide) rfl rfl) (HV.sepB (a := 6) (b := 3) (by decide) rfl rfl)) (HV.cell (i := 6) (j := 2) rfl rfl))))) HK ?_
        refine t_q (n := 4) 1 (.agg #[.int .i64 m, .slice B M.length c2, .bool b2]) rfl (by kernel_rfl) (by kernel_rfl) (fun _ _ _ h => h) (fun w' hk => (R_loadN (p := ⟨g3, 0, none⟩) [.int .i64 m, .slice B M.length c2, .bool b2] (by kernel_rfl) (by kernel_rfl) (by kernel_rfl) (by kernel_rfl) (three_at (hk.cellN (fun h_ => h_.elim (HV.sepB (a := 5) (b := 2) (by decide) rfl rfl) (HV.sepB (a := 5) (b := 3) (by decide) rfl rfl)) (HV.cell (i := 5) (j := 0) rfl rfl)) (hk.cellN (fun h_ => h_.elim (HV.sepB (a := 5) (b := 2) (by decide) rfl rfl) (HV.sepB (a := 5) (b := 3) (by decide) rfl rfl)) (HV.cell (i := 5) (j := 1) rfl rfl)) (hk.cellN (fun h_ => h_.elim (HV.sepB (a := 5) (b := 2) (by decide) rfl rfl) (HV.sepB (a := 5) (b := 3) (by decide) rfl rfl)) (HV.cell (i := 5) (j := 2) rfl rfl))))) HK ?_
        refine t_q (n := 3) 2 (.bool (if n = m then newB L M else false)) rfl (by kernel_rfl) (by kernel_rfl) (fun _ _ _ h => h) (fun w' hk => (by kernel_rfl)) HK ?_
        obtain ⟨W33, hrun_, H_, hk_⟩ := ex_ks (P := Tryd.prog) (ty := 0) (ps := "ref.go:66") (af := #[{ on := 0, ground := Go.Ground.data }, { on := 0, ground := Go.Ground.phase }, { on := 1, ground := (Go.Ground.textOnly Go.Departure.lateStores) }, { on := 2, ground := (Go.Ground.textOnly Go.Departure.lateStores) }]) (gd := none) (t := 32) (x := (Go.Operand.tmp 6)) (y := (Go.Operand.tmp 62)) (v := .agg #[.int .i64 n, .slice A28 ((if n = m then uni L M else L).length) c29, .bool (b || (decide (n = m) && b2) || decide (8 < (if n = m then uni L M else L).length))]) HS 3 rfl (0) [.int .i64 n, .slice A28 ((if n = m then uni L M else L).length) c29, .bool (b || (decide (n = m) && b2) || decide (8 < (if n = m then uni L M else L).length))] (by kernel_rfl) (by kernel_rfl) (by kernel_rfl) (by kernel_rfl) (one_ (by kernel_rfl)) (Nat.le_of_ble_eq_true rfl)
        replace HK := HK.trans hk_ (fun _ h_ => .inl (.inr (blk_own h_)))
        refine t_s (n := 2) 3 rfl (by kernel_rfl) (by kernel_rfl) hrun_ HK ?_
        clear hk_ hrun_
        replace HS : St W M_ W33 [row A28 ((if n = m then uni L M else L).length) c29 (ci .i64 (if n = m then uni L M else L)) 3 1, row B M.length c2 (ci .i64 M) 3 1, blk g9 [.int .i64 0, .slice none 0 0, .bool false] 32, blk g7 [.int .i64 n, .slice A28 ((if n = m then uni L M else L).length) c29, .bool (b || (decide (n = m) && b2) || decide (8 < (if n = m then uni L M else L).length))] 32, blk g5 [.int .i64 kd, .int .i64 i, .int .i64 t] 36, blk g3 [.int .i64 m, .slice B M.length c2, .bool b2] 32, blk g1 [.int .i64 n, .slice A28 ((if n = m then uni L M else L).length) c29, .bool (b || (decide (n = m) && b2) || decide (8 < (if n = m then uni L M else L).length))] 32] := H_
        clear H_
        obtain ⟨W34, hrun_, H_, hk_⟩ := ex_ks (P := Tryd.prog) (ty := 0) (ps := "ref.go:66") (af := #[{ on := 1, ground := Go.Ground.data }, { on := 3, ground := Go.Ground.chain }, { on := 0, ground := Go.Ground.phase }, { on := 1, ground := Go.Ground.phase }, { on := 2, ground := (Go.Ground.textOnly Go.Departure.lateStores) }, { on := 3, ground := Go.Ground.phase }]) (gd := none) (t := 32) (x := (Go.Operand.tmp 7)) (y := (Go.Operand.tmp 63)) (v := .agg #[.int .i64 m, .slice B M.length c2, .bool b2]) HS 2 rfl (0) [.int .i64 m, .slice B M.length c2, .bool b2] (by kernel_rfl) (by kernel_rfl) (by kernel_rfl) (by kernel_rfl) (one_ (by kernel_rfl)) (Nat.le_of_ble_eq_true rfl)
        replace HK := HK.trans hk_ (fun _ h_ => .inl (.inl (blk_own h_)))
        refine t_s (n := 1) 4 rfl (by kernel_rfl) (by kernel_rfl) hrun_ HK ?_
        clear hk_ hrun_
        replace HS : St W M_ W34 [row A28 ((if n = m then uni L M else L).length) c29 (ci .i64 (if n = m then uni L M else L)) 3 1, row B M.length c2 (ci .i64 M) 3 1, blk g9 [.int .i64 m, .slice B M.length c2, .bool b2] 32, blk g7 [.int .i64 n, .slice A28 ((if n = m then uni L M else L).length) c29, .bool (b || (decide (n = m) && b2) || decide (8 < (if n = m then uni L M else L).length))] 32, blk g5 [.int .i64 kd, .int .i64 i, .int .i64 t] 36, blk g3 [.int .i64 m, .slice B M.length c2, .bool b2] 32, blk g1 [.int .i64 n, .slice A28 ((if n = m then uni L M else L).length) c29, .bool (b || (decide (n = m) && b2) || decide (8 < (if n = m then uni L M else L).length))] 32] := H_
        clear H_
        refine t_q (n := 0) 5 (.bool (if n = m then newB L M else false)) rfl (by kernel_rfl) (by kernel_rfl) (fun _ _ _ h => h) (fun w' hk => (by kernel_rfl)) HK ?_
        refine t_done (by kernel_rfl) ?_
        clear HV HK
        refine x_then ?_
        refine wp_ret ?_
        refine ret_ (.tuple #[.agg #[.int .i64 n, .slice A28 ((if n = m then uni L M else L).length) c29, .bool (b || (decide (n = m) && b2) || decide (8 < (if n = m then uni L M else L).length))], .agg #[.int .i64 m, .slice B M.length c2, .bool b2], .bool (if n = m then newB L M else false)]) (res3 rfl (oneRes_agg (p := ⟨g7, 0, none⟩) [.int .i64 n, .slice A28 ((if n = m then uni L M else L).length) c29, .bool (b || (decide (n = m) && b2) || decide (8 < (if n = m then uni L M else L).length))] (by kernel_rfl) (by kernel_rfl) (by kernel_rfl) (by kernel_rfl) (HS.cellsN (i := 3) rfl)) (oneRes_agg (p := ⟨g9, 0, none⟩) [.int .i64 m, .slice B M.length c2, .bool b2] (by kernel_rfl) (by kernel_rfl) (by kernel_rfl) (by kernel_rfl) (HS.cellsN (i := 2) rfl)) (oneRes_t (by kernel_rfl))) ?_
        replace HS : St W M_ W34 [row A28 ((if n = m then uni L M else L).length) c29 (ci .i64 (if n = m then uni L M else L)) 3 1, row B M.length c2 (ci .i64 M) 3 1] := St.tail (F := [blk g9 [.int .i64 m, .slice B M.length c2, .bool b2] 32, blk g7 [.int .i64 n, .slice A28 ((if n = m then uni L M else L).length) c29, .bool (b || (decide (n = m) && b2) || decide (8 < (if n = m then uni L M else L).length))] 32, blk g5 [.int .i64 kd, .int .i64 i, .int .i64 t] 36, blk g3 [.int .i64 m, .slice B M.length c2, .bool b2] 32, blk g1 [.int .i64 n, .slice A28 ((if n = m then uni L M else L).length) c29, .bool (b || (decide (n = m) && b2) || decide (8 < (if n = m then uni L M else L).length))] 32]) (HS.perm (perm_ [2, 3, 4, 5, 6, 0, 1] (by kernel_rfl) rfl))
        have ezL : zL n m kd i t L M = (if n = m then uni L M else L) := by unfold zL; rw [if_neg (show ¬ kd = 0 by omega), if_pos (show kd = 2 by omega)]
        have ezM : zM n m kd i t L M = (M) := by unfold zM; rw [if_neg (show ¬ kd = 1 by omega), if_neg (show ¬ kd = 3 by omega), if_neg (show ¬ kd = 5 by omega)]
        have ezB : zB n m kd i L M = (if n = m then newB L M else false) := by unfold zB; rw [if_neg (show ¬ kd = 0 by omega), if_neg (show ¬ kd = 1 by omega), if_pos (show kd = 2 by omega)]
        have ez1 : zb1 n m kd b b2 (zL n m kd i t L M) = (b || (decide (n = m) && b2) || decide (8 < (if n = m then uni L M else L).length)) := by rw [ezL]; exact zb1_2 (by omega)
        have ez2 : zb2 n m kd b b2 (zM n m kd i t L M) = b2 := by rw [ezM, zb2_n (by omega)]; exact hbM.symm
        exact ⟨_, _, _, _, by rw [ez1, ez2, ezL, ezM, ezB], by rw [ezL, ezM]; exact HS⟩
      · skip
        refine ql (.bool false) (by kernel_rfl) (R_beq (b := (kd == (2 : Int))) (by kernel_rfl) (beq_f (hc27))) ?_
        refine ql (.bool false) (by kernel_rfl) (by kernel_rfl) ?_
        refine wpList_nil ?_
        refine x_then ?_
        refine wp_cond_false (by kernel_rfl) ?_
        refine wp_seq ?_
        refine wp_region_lit ?_
        by_cases hc35 : kd = (3 : Int)
        · skip
          refine ql (.bool true) (by kernel_rfl) (R_beq (b := (kd == (3 : Int))) (by kernel_rfl) (beq_t (hc35))) ?_
          refine ql (.bool true) (by kernel_rfl) (by kernel_rfl) ?_
          refine wpList_nil ?_
          refine x_then ?_
          refine wp_cond_true (by kernel_rfl) ?_
          refine wp_region_lit ?_
          refine ql (.agg #[.int .i64 m, .slice B M.length c2, .bool b2]) (by kernel_rfl) (R_loadN (p := ⟨g3, 0, none⟩) [.int .i64 m, .slice B M.length c2, .bool b2] (by kernel_rfl) (by kernel_rfl) (by kernel_rfl) (by kernel_rfl) (three_at (HS.cell (i := 3) (j := 0) rfl rfl) (HS.cell (i := 3) (j := 1) rfl rfl) (HS.cell (i := 3) (j := 2) rfl rfl))) ?_
          refine ql (.agg #[.int .i64 n, .slice A L.length c, .bool b]) (by kernel_rfl) (R_loadN (p := ⟨g1, 0, none⟩) [.int .i64 n, .slice A L.length c, .bool b] (by kernel_rfl) (by kernel_rfl) (by kernel_rfl) (by kernel_rfl) (three_at (HS.cell (i := 4) (j := 0) rfl rfl) (HS.cell (i := 4) (j := 1) rfl rfl) (HS.cell (i := 4) (j := 2) rfl rfl))) ?_
          refine qc (f := 27) (args := #[.agg #[.int .i64 m, .slice B M.length c2, .bool b2], .agg #[.int .i64 n, .slice A L.length c, .bool b]]) (by kernel_rfl) (R_call #[.agg #[.int .i64 m, .slice B M.length c2, .bool b2], .agg #[.int .i64 n, .slice A L.length c, .bool b]] Tryd.func27 (by kernel_rfl) (by kernel_rfl) (by kernel_rfl)) ?_
          replace HS : St W M_ W10 [row B M.length c2 (ci .i64 M) 3 1, row A L.length c (ci .i64 L) 3 1, blk g9 [.int .i64 0, .slice none 0 0, .bool false] 32, blk g7 [.int .i64 0, .slice none 0 0, .bool false] 32, blk g5 [.int .i64 kd, .int .i64 i, .int .i64 t] 36, blk g3 [.int .i64 m, .slice B M.length c2, .bool b2] 32, blk g1 [.int .i64 n, .slice A L.length c, .bool b] 32] := HS.perm (perm_ [6, 5, 0, 1, 2, 3, 4] (by kernel_rfl) rfl)
          refine (r5or B c2 M m b2 A c L n b _ _ (St.focus (F := [row B M.length c2 (ci .i64 M) 3 1, row A L.length c (ci .i64 L) 3 1]) HS) (by omega) (by omega) hsL hlL hbM).mono ?_
          rintro e W38 ⟨A36, c37, rfl, H_⟩
          refine ⟨_, rfl, ?_⟩
          replace HS : St W M_ W38 [row A36 ((if m = n then uni M L else M).length) c37 (ci .i64 (if m = n then uni M L else M)) 3 1, row A L.length c (ci .i64 L) 3 1, blk g9 [.int .i64 0, .slice none 0 0, .bool false] 32, blk g7 [.int .i64 0, .slice none 0 0, .bool false] 32, blk g5 [.int .i64 kd, .int .i64 i, .int .i64 t] 36, blk g3 [.int .i64 m, .slice B M.length c2, .bool b2] 32, blk g1 [.int .i64 n, .slice A L.length c, .bool b] 32] := HS.join (F := [row B M.length c2 (ci .i64 M) 3 1, row A L.length c (ci .i64 L) 3 1]) (G := [row A36 ((if m = n then uni M L else M).length) c37 (ci .i64 (if m = n then uni M L else M)) 3 1, row A L.length c (ci .i64 L) 3 1]) H_
          clear H_
          refine ql (.tuple #[.agg #[.int .i64 m, .slice A36 ((if m = n then uni M L else M).length) c37, .bool (b2 || (decide (m = n) && b) || decide (8 < (if m = n then uni M L else M).length))], .bool (if m = n then newB M L else false)]) (by kernel_rfl) (by kernel_rfl) ?_
          refine ql (.agg #[.int .i64 m, .slice A36 ((if m = n then uni M L else M).length) c37, .bool (b2 || (decide (m = n) && b) || decide (8 < (if m = n then uni M L else M).length))]) (by kernel_rfl) (by kernel_rfl) ?_
          refine ql (.bool (if m = n then newB M L else false)) (by kernel_rfl) (by kernel_rfl) ?_
          refine ks (v := .agg #[.int .i64 m, .slice A36 ((if m = n then uni M L else M).length) c37, .bool (b2 || (decide (m = n) && b) || decide (8 < (if m = n then uni M L else M).length))]) HS 5 rfl (0) [.int .i64 m, .slice A36 ((if m = n then uni M L else M).length) c37, .bool (b2 || (decide (m = n) && b) || decide (8 < (if m = n then uni M L else M).length))] (by kernel_rfl) (by kernel_rfl) (by kernel_rfl) (by kernel_rfl) (by kernel_rfl) (one_ (by kernel_rfl)) (Nat.le_of_ble_eq_true rfl) rfl ?_
          intro W39 H_
          replace HS : St W M_ W39 [row A36 ((if m = n then uni M L else M).length) c37 (ci .i64 (if m = n then uni M L else M)) 3 1, row A L.length c (ci .i64 L) 3 1, blk g9 [.int .i64 0, .slice none 0 0, .bool false] 32, blk g7 [.int .i64 0, .slice none 0 0, .bool false] 32, blk g5 [.int .i64 kd, .int .i64 i, .int .i64 t] 36, blk g3 [.int .i64 m, .slice A36 ((if m = n then uni M L else M).length) c37, .bool (b2 || (decide (m = n) && b) || decide (8 < (if m = n then uni M L else M).length))] 32, blk g1 [.int .i64 n, .slice A L.length c, .bool b] 32] := H_
          clear H_
          refine ql (.bool (if m = n then newB M L else false)) (by kernel_rfl) (by kernel_rfl) ?_
          refine wpList_nil ?_
          refine x_inb ?_
          refine x_then ?_
          refine wp_seq ?_
          refine t_start HS (fun k_ => (blk g9 [.int .i64 0, .slice none 0 0, .bool false] 32).own k_ ∨ (blk g7 [.int .i64 0, .slice none 0 0, .bool false] 32).own k_) 6 (by kernel_rfl) rfl ?_
          intro W40 H_ HD_
          clear HD_
          replace HS : St W M_ W40 [row A36 ((if m = n then uni M L else M).length) c37 (ci .i64 (if m = n then uni M L else M)) 3 1, row A L.length c (ci .i64 L) 3 1, blk g9 [.int .i64 0, .slice none 0 0, .bool false] 32, blk g7 [.int .i64 0, .slice none 0 0, .bool false] 32, blk g5 [.int .i64 kd, .int .i64 i, .int .i64 t] 36, blk g3 [.int .i64 m, .slice A36 ((if m = n then uni M L else M).length) c37, .bool (b2 || (decide (m = n) && b) || decide (8 < (if m = n then uni M L else M).length))] 32, blk g1 [.int .i64 n, .slice A L.length c, .bool b] 32] := H_
          clear H_
          have HV := HS
          have HK := Kpt.refl (fun k_ => (blk g9 [.int .i64 0, .slice none 0 0, .bool false] 32).own k_ ∨ (blk g7 [.int .i64 0, .slice none 0 0, .bool false] 32).own k_) W40
          refine t_q (n := 5) 0 (.agg #[.int .i64 n, .slice A L.length c, .bool b]) rfl (by kernel_rfl) (by kernel_rfl) (fun _ _ _ h => h) (fun w' hk => (R_loadN (p := ⟨g1, 0, none⟩) [.int .i64 n, .slice A L.length c, .bool b] (by kernel_rfl) (by kernel_rfl) (by kernel_rfl) (by kernel_rfl) (three_at (hk.cellN (fun h_ => h_.elim (HV.sepB (a := 6) (b := 2) (by decide) rfl rfl) (HV.sepB (a := 6) (b := 3) (by decide) rfl rfl)) (HV.cell (i := 6) (j := 0) rfl rfl)) (hk.cellN (fun h_ => h_.elim (HV.sepB (a := 6) (b := 2) (by decide) rfl rfl) (HV.sepB (a := 6) (b := 3) (by decide) rfl rfl)) (HV.cell (i := 6) (j := 1) rfl rfl)) (hk.cellN (fun h_ => h_.elim (HV.sepB (a := 6) (b := 2) (by decide) rfl rfl) (HV.sepB (a := 6) (b := 3) (by decide) rfl rfl)) (HV.cell (i := 6) (j := 2) rfl rfl))))) HK ?_
          refine t_q (n := 4) 1 (.agg #[.int .i64 m, .slice A36 ((if m = n then uni M L else M).length) c37, .bool (b2 || (decide (m = n) && b) || decide (8 < (if m = n then uni M L else M).length))]) rfl (by kernel_rfl) (by kernel_rfl) (fun _ _ _ h => h) (fun w' hk => (R_loadN (p := ⟨g3, 0, none⟩) [.int .i64 m, .slice A36 ((if m = n then uni M L else M).length) c37, .bool (b2 || (decide (m = n) && b) || decide (8 < (if m = n then uni M L else M).length))] (by kernel_rfl) (by kernel_rfl) (by kernel_rfl) (by kernel_rfl) (three_at (hk.cellN (fun h_ => h_.elim (HV.sepB (a := 5) (b := 2) (by decide) rfl rfl) (HV.sepB (a := 5) (b := 3) (by decide) rfl rfl)) (HV.cell (i := 5) (j := 0) rfl rfl)) (hk.cellN (fun h_ => h_.elim (HV.sepB (a := 5) (b := 2) (by decide) rfl rfl) (HV.sepB (a := 5) (b := 3) (by decide) rfl rfl)) (HV.cell (i := 5) (j := 1) rfl rfl)) (hk.cellN (fun h_ => h_.elim (HV.sepB (a := 5) (b := 2) (by decide) rfl rfl) (HV.sepB (a := 5) (b := 3) (by decide) rfl rfl)) (HV.cell (i := 5) (j := 2) rfl rfl))))) HK ?_
          refine t_q (n := 3) 2 (.bool (if m = n then newB M L else false)) rfl (by kernel_rfl) (by kernel_rfl) (fun _ _ _ h => h) (fun w' hk => (by kernel_rfl)) HK ?_
          obtain ⟨W41, hrun_, H_, hk_⟩ := ex_ks (P := Tryd.prog) (ty := 0) (ps := "ref.go:66") (af := #[{ on := 0, ground := Go.Ground.data }, { on := 0, ground := Go.Ground.phase }, { on := 1, ground := (Go.Ground.textOnly Go.Departure.lateStores) }, { on := 2, ground := (Go.Ground.textOnly Go.Departure.lateStores) }]) (gd := none) (t := 32) (x := (Go.Operand.tmp 6)) (y := (Go.Operand.tmp 62)) (v := .agg #[.int .i64 n, .slice A L.length c, .bool b]) HS 3 rfl (0) [.int .i64 n, .slice A L.length c, .bool b] (by kernel_rfl) (by kernel_rfl) (by kernel_rfl) (by kernel_rfl) (one_ (by kernel_rfl)) (Nat.le_of_ble_eq_true rfl)
          replace HK := HK.trans hk_ (fun _ h_ => .inl (.inr (blk_own h_)))
          refine t_s (n := 2) 3 rfl (by kernel_rfl) (by kernel_rfl) hrun_ HK ?_
          clear hk_ hrun_
          replace HS : St W M_ W41 [row A36 ((if m = n then uni M L else M).length) c37 (ci .i64 (if m = n then uni M L else M)) 3 1, row A L.length c (ci .i64 L) 3 1, blk g9 [.int .i64 0, .slice none 0 0, .bool false] 32, blk g7 [.int .i64 n, .slice A L.length c, .bool b] 32, blk g5 [.int .i64 kd, .int .i64 i, .int .i64 t] 36, blk g3 [.int .i64 m, .slice A36 ((if m = n then uni M L else M).length) c37, .bool (b2 || (decide (m = n) && b) || decide (8 < (if m = n then uni M L else M).length))] 32, blk g1 [.int .i64 n, .slice A L.length c, .bool b] 32] := H_
          clear H_
          obtain ⟨W42, hrun_, H_, hk_⟩ := ex_ks (P := Tryd.prog) (ty := 0) (ps := "ref.go:66") (af := #[{ on := 1, ground := Go.Ground.data }, { on := 3, ground := Go.Ground.chain }, { on := 0, ground := Go.Ground.phase }, { on := 1, ground := Go.Ground.phase }, { on := 2, ground := (Go.Ground.textOnly Go.Departure.lateStores) }, { on := 3, ground := Go.Ground.phase }]) (gd := none) (t := 32) (x := (Go.Operand.tmp 7)) (y := (Go.Operand.tmp 63)) (v := .agg #[.int .i64 m, .slice A36 ((if m = n then uni M L else M).length) c37, .bool (b2 || (decide (m = n) && b) || decide (8 < (if m = n then uni M L else M).length))]) HS 2 rfl (0) [.int .i64 m, .slice A36 ((if m = n then uni M L else M).length) c37, .bool (b2 || (decide (m = n) && b) || decide (8 < (if m = n then uni M L else M).length))] (by kernel_rfl) (by kernel_rfl) (by kernel_rfl) (by kernel_rfl) (one_ (by kernel_rfl)) (Nat.le_of_ble_eq_true rfl)
          replace HK := HK.trans hk_ (fun _ h_ => .inl (.inl (blk_own h_)))
          refine t_s (n := 1) 4 rfl (by kernel_rfl) (by kernel_rfl) hrun_ HK ?_
          clear hk_ hrun_
          replace HS : St W M_ W42 [row A36 ((if m = n then uni M L else M).length) c37 (ci .i64 (if m = n then uni M L else M)) 3 1, row A L.length c (ci .i64 L) 3 1, blk g9 [.int .i64 m, .slice A36 ((if m = n then uni M L else M).length) c37, .bool (b2 || (decide (m = n) && b) || decide (8 < (if m = n then uni M L else M).length))] 32, blk g7 [.int .i64 n, .slice A L.length c, .bool b] 32, blk g5 [.int .i64 kd, .int .i64 i, .int .i64 t] 36, blk g3 [.int .i64 m, .slice A36 ((if m = n then uni M L else M).length) c37, .bool (b2 || (decide (m = n) && b) || decide (8 < (if m = n then uni M L else M).length))] 32, blk g1 [.int .i64 n, .slice A L.length c, .bool b] 32] := H_
          clear H_
          refine t_q (n := 0) 5 (.bool (if m = n then newB M L else false)) rfl (by kernel_rfl) (by kernel_rfl) (fun _ _ _ h => h) (fun w' hk => (by kernel_rfl)) HK ?_
          refine t_done (by kernel_rfl) ?_
          clear HV HK
          refine x_then ?_
          refine wp_ret ?_
          refine ret_ (.tuple #[.agg #[.int .i64 n, .slice A L.length c, .bool b], .agg #[.int .i64 m, .slice A36 ((if m = n then uni M L else M).length) c37, .bool (b2 || (decide (m = n) && b) || decide (8 < (if m = n then uni M L else M).length))], .bool (if m = n then newB M L else false)]) (res3 rfl (oneRes_agg (p := ⟨g7, 0, none⟩) [.int .i64 n, .slice A L.length c, .bool b] (by kernel_rfl) (by kernel_rfl) (by kernel_rfl) (by kernel_rfl) (HS.cellsN (i := 3) rfl)) (oneRes_agg (p := ⟨g9, 0, none⟩) [.int .i64 m, .slice A36 ((if m = n then uni M L else M).length) c37, .bool (b2 || (decide (m = n) && b) || decide (8 < (if m = n then uni M L else M).length))] (by kernel_rfl) (by kernel_rfl) (by kernel_rfl) (by kernel_rfl) (HS.cellsN (i := 2) rfl)) (oneRes_t (by kernel_rfl))) ?_
          replace HS : St W M_ W42 [row A L.length c (ci .i64 L) 3 1, row A36 ((if m = n then uni M L else M).length) c37 (ci .i64 (if m = n then uni M L else M)) 3 1] := St.tail (F := [blk g9 [.int .i64 m, .slice A36 ((if m = n then uni M L else M).length) c37, .bool (b2 || (decide (m = n) && b) || decide (8 < (if m = n then uni M L else M).length))] 32, blk g7 [.int .i64 n, .slice A L.length c, .bool b] 32, blk g5 [.int .i64 kd, .int .i64 i, .int .i64 t] 36, blk g3 [.int .i64 m, .slice A36 ((if m = n then uni M L else M).length) c37, .bool (b2 || (decide (m = n) && b) || decide (8 < (if m = n then uni M L else M).length))] 32, blk g1 [.int .i64 n, .slice A L.length c, .bool b] 32]) (HS.perm (perm_ [2, 3, 4, 5, 6, 1, 0] (by kernel_rfl) rfl))
          have ezL : zL n m kd i t L M = (L) := by unfold zL; rw [if_neg (show ¬ kd = 0 by omega), if_neg (show ¬ kd = 2 by omega), if_neg (show ¬ kd = 4 by omega)]
          have ezM : zM n m kd i t L M = (if m = n then uni M L else M) := by unfold zM; rw [if_neg (show ¬ kd = 1 by omega), if_pos (show kd = 3 by omega)]
          have ezB : zB n m kd i L M = (if m = n then newB M L else false) := by unfold zB; rw [if_neg (show ¬ kd = 0 by omega), if_neg (show ¬ kd = 1 by omega), if_neg (show ¬ kd = 2 by omega), if_pos (show kd = 3 by omega)]
          have ez1 : zb1 n m kd b b2 (zL n m kd i t L M) = b := by rw [ezL, zb1_n (by omega)]; exact hbL.symm
          have ez2 : zb2 n m kd b b2 (zM n m kd i t L M) = (b2 || (decide (m = n) && b) || decide (8 < (if m = n then uni M L else M).length)) := by rw [ezM]; exact zb2_3 (by omega)
          exact ⟨_, _, _, _, by rw [ez1, ez2, ezL, ezM, ezB], by rw [ezL, ezM]; exact HS⟩
        · skip
          refine ql (.bool false) (by kernel_rfl) (R_beq (b := (kd == (3 : Int))) (by kernel_rfl) (beq_f (hc35))) ?_
          refine ql (.bool false) (by kernel_rfl) (by kernel_rfl) ?_
          refine wpList_nil ?_
          refine x_then ?_
          refine wp_cond_false (by kernel_rfl) ?_
          refine wp_seq ?_
          refine wp_region_lit ?_
          by_cases hc43 : kd = (4 : Int)
          · skip
            refine ql (.bool true) (by kernel_rfl) (R_beq (b := (kd == (4 : Int))) (by kernel_rfl) (beq_t (hc43))) ?_
            refine ql (.bool true) (by kernel_rfl) (by kernel_rfl) ?_
            refine wpList_nil ?_
            refine x_then ?_
            refine wp_cond_true (by kernel_rfl) ?_
            refine wp_region_lit ?_
            refine ql (.agg #[.int .i64 n, .slice A L.length c, .bool b]) (by kernel_rfl) (R_loadN (p := ⟨g1, 0, none⟩) [.int .i64 n, .slice A L.length c, .bool b] (by kernel_rfl) (by kernel_rfl) (by kernel_rfl) (by kernel_rfl) (three_at (HS.cell (i := 4) (j := 0) rfl rfl) (HS.cell (i := 4) (j := 1) rfl rfl) (HS.cell (i := 4) (j := 2) rfl rfl))) ?_
            refine ql (.pointer (some ⟨g5, 1, none⟩)) (by kernel_rfl) (by kernel_rfl) ?_
            refine ql (.int .i64 i) (by kernel_rfl) (R_load (p := ⟨g5, 1, none⟩) (by kernel_rfl) (by kernel_rfl) (by kernel_rfl) (HS.cell (i := 2) (j := 1) rfl rfl)) ?_
            refine ql (.pointer (some ⟨g5, 2, none⟩)) (by kernel_rfl) (by kernel_rfl) ?_
            refine ql (.int .i64 t) (by kernel_rfl) (R_load (p := ⟨g5, 2, none⟩) (by kernel_rfl) (by kernel_rfl) (by kernel_rfl) (HS.cell (i := 2) (j := 2) rfl rfl)) ?_
            refine qc (f := 28) (args := #[.agg #[.int .i64 n, .slice A L.length c, .bool b], .int .i64 i, .int .i64 t]) (by kernel_rfl) (R_call #[.agg #[.int .i64 n, .slice A L.length c, .bool b], .int .i64 i, .int .i64 t] Tryd.func28 (by kernel_rfl) (by kernel_rfl) (by kernel_rfl)) ?_
            replace HS : St W M_ W10 [row A L.length c (ci .i64 L) 3 1, blk g9 [.int .i64 0, .slice none 0 0, .bool false] 32, blk g7 [.int .i64 0, .slice none 0 0, .bool false] 32, blk g5 [.int .i64 kd, .int .i64 i, .int .i64 t] 36, blk g3 [.int .i64 m, .slice B M.length c2, .bool b2] 32, blk g1 [.int .i64 n, .slice A L.length c, .bool b] 32, row B M.length c2 (ci .i64 M) 3 1] := HS.perm (perm_ [5, 0, 1, 2, 3, 4, 6] (by kernel_rfl) rfl)
            refine (r5fill A c L n b i t _ _ (St.focus (F := [row A L.length c (ci .i64 L) 3 1]) HS) hsL hlL hbL h0L hnL).mono ?_
            rintro e W46 ⟨A44, c45, rfl, H_⟩
            refine ⟨_, rfl, ?_⟩
            replace HS : St W M_ W46 [row A44 ((filL n L i t).length) c45 (ci .i64 (filL n L i t)) 3 1, blk g9 [.int .i64 0, .slice none 0 0, .bool false] 32, blk g7 [.int .i64 0, .slice none 0 0, .bool false] 32, blk g5 [.int .i64 kd, .int .i64 i, .int .i64 t] 36, blk g3 [.int .i64 m, .slice B M.length c2, .bool b2] 32, blk g1 [.int .i64 n, .slice A L.length c, .bool b] 32, row B M.length c2 (ci .i64 M) 3 1] := HS.join (F := [row A L.length c (ci .i64 L) 3 1]) (G := [row A44 ((filL n L i t).length) c45 (ci .i64 (filL n L i t)) 3 1]) H_
            clear H_
            refine ks (v := .agg #[.int .i64 n, .slice A44 ((filL n L i t).length) c45, .bool (b || decide (8 < (filL n L i t).length))]) HS 5 rfl (0) [.int .i64 n, .slice A44 ((filL n L i t).length) c45, .bool (b || decide (8 < (filL n L i t).length))] (by kernel_rfl) (by kernel_rfl) (by kernel_rfl) (by kernel_rfl) (by kernel_rfl) (one_ (by kernel_rfl)) (Nat.le_of_ble_eq_true rfl) rfl ?_
            intro W47 H_
            replace HS : St W M_ W47 [row A44 ((filL n L i t).length) c45 (ci .i64 (filL n L i t)) 3 1, blk g9 [.int .i64 0, .slice none 0 0, .bool false] 32, blk g7 [.int .i64 0, .slice none 0 0, .bool false] 32, blk g5 [.int .i64 kd, .int .i64 i, .int .i64 t] 36, blk g3 [.int .i64 m, .slice B M.length c2, .bool b2] 32, blk g1 [.int .i64 n, .slice A44 ((filL n L i t).length) c45, .bool (b || decide (8 < (filL n L i t).length))] 32, row B M.length c2 (ci .i64 M) 3 1] := H_
            clear H_
            refine wpList_nil ?_
            refine x_inb ?_
            refine x_then ?_
            refine wp_seq ?_
            refine t_start HS (fun k_ => (blk g9 [.int .i64 0, .slice none 0 0, .bool false] 32).own k_ ∨ (blk g7 [.int .i64 0, .slice none 0 0, .bool false] 32).own k_) 6 (by kernel_rfl) rfl ?_
            intro W48 H_ HD_
            clear HD_
            replace HS : St W M_ W48 [row A44 ((filL n L i t).length) c45 (ci .i64 (filL n L i t)) 3 1, blk g9 [.int .i64 0, .slice none 0 0, .bool false] 32, blk g7 [.int .i64 0, .slice none 0 0, .bool false] 32, blk g5 [.int .i64 kd, .int .i64 i, .int .i64 t] 36, blk g3 [.int .i64 m, .slice B M.length c2, .bool b2] 32, blk g1 [.int .i64 n, .slice A44 ((filL n L i t).length) c45, .bool (b || decide (8 < (filL n L i t).length))] 32, row B M.length c2 (ci .i64 M) 3 1] := H_
            clear H_
            have HV := HS
            have HK := Kpt.refl (fun k_ => (blk g9 [.int .i64 0, .slice none 0 0, .bool false] 32).own k_ ∨ (blk g7 [.int .i64 0, .slice none 0 0, .bool false] 32).own k_) W48
            refine t_q (n := 5) 0 (.agg #[.int .i64 n, .slice A44 ((filL n L i t).length) c45, .bool (b || decide (8 < (filL n L i t).length))]) rfl (by kernel_rfl) (by kernel_rfl) (fun _ _ _ h => h) (fun w' hk => (R_loadN (p := ⟨g1, 0, none⟩) [.int .i64 n, .slice A44 ((filL n L i t).length) c45, .bool (b || decide (8 < (filL n L i t).length))] (by kernel_rfl) (by kernel_rfl) (by kernel_rfl) (by kernel_rfl) (three_at (hk.cellN (fun h_ => h_.elim (HV.sepB (a := 5) (b := 1) (by decide) rfl rfl) (HV.sepB (a := 5) (b := 2) (by decide) rfl rfl)) (HV.cell (i := 5) (j := 0) rfl rfl)) (hk.cellN (fun h_ => h_.elim (HV.sepB (a := 5) (b := 1) (by decide) rfl rfl) (HV.sepB (a := 5) (b := 2) (by decide) rfl rfl)) (HV.cell (i := 5) (j := 1) rfl rfl)) (hk.cellN (fun h_ => h_.elim (HV.sepB (a := 5) (b := 1) (by decide) rfl rfl) (HV.sepB (a := 5) (b := 2) (by decide) rfl rfl)) (HV.cell (i := 5) (j := 2) rfl rfl))))) HK ?_
            refine t_q (n := 4) 1 (.agg #[.int .i64 m, .slice B M.length c2, .bool b2]) rfl (by kernel_rfl) (by kernel_rfl) (fun _ _ _ h => h) (fun w' hk => (R_loadN (p := ⟨g3, 0, none⟩) [.int .i64 m, .slice B M.length c2, .bool b2] (by kernel_rfl) (by kernel_rfl) (by kernel_rfl) (by kernel_rfl) (three_at (hk.cellN (fun h_ => h_.elim (HV.sepB (a := 4) (b := 1) (by decide) rfl rfl) (HV.sepB (a := 4) (b := 2) (by decide) rfl rfl)) (HV.cell (i := 4) (j := 0) rfl rfl)) (hk.cellN (fun h_ => h_.elim (HV.sepB (a := 4) (b := 1) (by decide) rfl rfl) (HV.sepB (a := 4) (b := 2) (by decide) rfl rfl)) (HV.cell (i := 4) (j := 1) rfl rfl)) (hk.cellN (fun h_ => h_.elim (HV.sepB (a := 4) (b := 1) (by decide) rfl rfl) (HV.sepB (a := 4) (b := 2) (by decide) rfl rfl)) (HV.cell (i := 4) (j := 2) rfl rfl))))) HK ?_
            refine t_q (n := 3) 2 (.bool false) rfl (by kernel_rfl) (by kernel_rfl) (fun _ _ _ h => h) (fun w' hk => (by kernel_rfl)) HK ?_
            obtain ⟨W49, hrun_, H_, hk_⟩ := ex_ks (P := Tryd.prog) (ty := 0) (ps := "ref.go:66") (af := #[{ on := 0, ground := Go.Ground.data }, { on := 0, ground := Go.Ground.phase }, { on := 1, ground := (Go.Ground.textOnly Go.Departure.lateStores) }, { on := 2, ground := (Go.Ground.textOnly Go.Departure.lateStores) }]) (gd := none) (t := 32) (x := (Go.Operand.tmp 6)) (y := (Go.Operand.tmp 62)) (v := .agg #[.int .i64 n, .slice A44 ((filL n L i t).length) c45, .bool (b || decide (8 < (filL n L i t).length))]) HS 2 rfl (0) [.int .i64 n, .slice A44 ((filL n L i t).length) c45, .bool (b || decide (8 < (filL n L i t).length))] (by kernel_rfl) (by kernel_rfl) (by kernel_rfl) (by kernel_rfl) (one_ (by kernel_rfl)) (Nat.le_of_ble_eq_true rfl)
            replace HK := HK.trans hk_ (fun _ h_ => .inl (.inr (blk_own h_)))
            refine t_s (n := 2) 3 rfl (by kernel_rfl) (by kernel_rfl) hrun_ HK ?_
            clear hk_ hrun_
            replace HS : St W M_ W49 [row A44 ((filL n L i t).length) c45 (ci .i64 (filL n L i t)) 3 1, blk g9 [.int .i64 0, .slice none 0 0, .bool false] 32, blk g7 [.int .i64 n, .slice A44 ((filL n L i t).length) c45, .bool (b || decide (8 < (filL n L i t).length))] 32, blk g5 [.int .i64 kd, .int .i64 i, .int .i64 t] 36, blk g3 [.int .i64 m, .slice B M.length c2, .bool b2] 32, blk g1 [.int .i64 n, .slice A44 ((filL n L i t).length) c45, .bool (b || decide (8 < (filL n L i t).length))] 32, row B M.length c2 (ci .i64 M) 3 1] := H_
            clear H_
            obtain ⟨W50, hrun_, H_, hk_⟩ := ex_ks (P := Tryd.prog) (ty := 0) (ps := "ref.go:66") (af := #[{ on := 1, ground := Go.Ground.data }, { on := 3, ground := Go.Ground.chain }, { on := 0, ground := Go.Ground.phase }, { on := 1, ground := Go.Ground.phase }, { on := 2, ground := (Go.Ground.textOnly Go.Departure.lateStores) }, { on := 3, ground := Go.Ground.phase }]) (gd := none) (t := 32) (x := (Go.Operand.tmp 7)) (y := (Go.Operand.tmp 63)) (v := .agg #[.int .i64 m, .slice B M.length c2, .bool b2]) HS 1 rfl (0) [.int .i64 m, .slice B M.length c2, .bool b2] (by kernel_rfl) (by kernel_rfl) (by kernel_rfl) (by kernel_rfl) (one_ (by kernel_rfl)) (Nat.le_of_ble_eq_true rfl)
            replace HK := HK.trans hk_ (fun _ h_ => .inl (.inl (blk_own h_)))
            refine t_s (n := 1) 4 rfl (by kernel_rfl) (by kernel_rfl) hrun_ HK ?_
            clear hk_ hrun_
            replace HS : St W M_ W50 [row A44 ((filL n L i t).length) c45 (ci .i64 (filL n L i t)) 3 1, blk g9 [.int .i64 m, .slice B M.length c2, .bool b2] 32, blk g7 [.int .i64 n, .slice A44 ((filL n L i t).length) c45, .bool (b || decide (8 < (filL n L i t).length))] 32, blk g5 [.int .i64 kd, .int .i64 i, .int .i64 t] 36, blk g3 [.int .i64 m, .slice B M.length c2, .bool b2] 32, blk g1 [.int .i64 n, .slice A44 ((filL n L i t).length) c45, .bool (b || decide (8 < (filL n L i t).length))] 32, row B M.length c2 (ci .i64 M) 3 1] := H_
            clear H_
            refine t_q (n := 0) 5 (.bool false) rfl (by kernel_rfl) (by kernel_rfl) (fun _ _ _ h => h) (fun w' hk => (by kernel_rfl)) HK ?_
            refine t_done (by kernel_rfl) ?_
            clear HV HK
            refine x_then ?_
            refine wp_ret ?_
            refine ret_ (.tuple #[.agg #[.int .i64 n, .slice A44 ((filL n L i t).length) c45, .bool (b || decide (8 < (filL n L i t).length))], .agg #[.int .i64 m, .slice B M.length c2, .bool b2], .bool false]) (res3 rfl (oneRes_agg (p := ⟨g7, 0, none⟩) [.int .i64 n, .slice A44 ((filL n L i t).length) c45, .bool (b || decide (8 < (filL n L i t).length))] (by kernel_rfl) (by kernel_rfl) (by kernel_rfl) (by kernel_rfl) (HS.cellsN (i := 2) rfl)) (oneRes_agg (p := ⟨g9, 0, none⟩) [.int .i64 m, .slice B M.length c2, .bool b2] (by kernel_rfl) (by kernel_rfl) (by kernel_rfl) (by kernel_rfl) (HS.cellsN (i := 1) rfl)) (oneRes_t (by kernel_rfl))) ?_
            replace HS : St W M_ W50 [row A44 ((filL n L i t).length) c45 (ci .i64 (filL n L i t)) 3 1, row B M.length c2 (ci .i64 M) 3 1] := St.tail (F := [blk g9 [.int .i64 m, .slice B M.length c2, .bool b2] 32, blk g7 [.int .i64 n, .slice A44 ((filL n L i t).length) c45, .bool (b || decide (8 < (filL n L i t).length))] 32, blk g5 [.int .i64 kd, .int .i64 i, .int .i64 t] 36, blk g3 [.int .i64 m, .slice B M.length c2, .bool b2] 32, blk g1 [.int .i64 n, .slice A44 ((filL n L i t).length) c45, .bool (b || decide (8 < (filL n L i t).length))] 32]) (HS.perm (perm_ [1, 2, 3, 4, 5, 0, 6] (by kernel_rfl) rfl))
            have ezL : zL n m kd i t L M = (filL n L i t) := by unfold zL; rw [if_neg (show ¬ kd = 0 by omega), if_neg (show ¬ kd = 2 by omega), if_pos (show kd = 4 by omega)]
            have ezM : zM n m kd i t L M = (M) := by unfold zM; rw [if_neg (show ¬ kd = 1 by omega), if_neg (show ¬ kd = 3 by omega), if_neg (show ¬ kd = 5 by omega)]
            have ezB : zB n m kd i L M = (false) := by unfold zB; rw [if_neg (show ¬ kd = 0 by omega), if_neg (show ¬ kd = 1 by omega), if_neg (show ¬ kd = 2 by omega), if_neg (show ¬ kd = 3 by omega)]
            have ez1 : zb1 n m kd b b2 (zL n m kd i t L M) = (b || decide (8 < (filL n L i t).length)) := by rw [ezL]; exact zb1_n (by omega)
            have ez2 : zb2 n m kd b b2 (zM n m kd i t L M) = b2 := by rw [ezM, zb2_n (by omega)]; exact hbM.symm
            exact ⟨_, _, _, _, by rw [ez1, ez2, ezL, ezM, ezB], by rw [ezL, ezM]; exact HS⟩
          · skip
            refine ql (.bool false) (by kernel_rfl) (R_beq (b := (kd == (4 : Int))) (by kernel_rfl) (beq_f (hc43))) ?_
            refine ql (.bool false) (by kernel_rfl) (by kernel_rfl) ?_
            refine wpList_nil ?_
            refine x_then ?_
            refine wp_cond_false (by kernel_rfl) ?_
            refine wp_seq ?_
            refine wp_region_lit ?_
            by_cases hc51 : kd = (5 : Int)
            · skip
              refine ql (.bool true) (by kernel_rfl) (R_beq (b := (kd == (5 : Int))) (by kernel_rfl) (beq_t (hc51))) ?_
              refine ql (.bool true) (by kernel_rfl) (by kernel_rfl) ?_
              refine wpList_nil ?_
              refine x_then ?_
              refine wp_cond_true (by kernel_rfl) ?_
              refine wp_region_lit ?_
              refine ql (.agg #[.int .i64 m, .slice B M.length c2, .bool b2]) (by kernel_rfl) (R_loadN (p := ⟨g3, 0, none⟩) [.int .i64 m, .slice B M.length c2, .bool b2] (by kernel_rfl) (by kernel_rfl) (by kernel_rfl) (by kernel_rfl) (three_at (HS.cell (i := 3) (j := 0) rfl rfl) (HS.cell (i := 3) (j := 1) rfl rfl) (HS.cell (i := 3) (j := 2) rfl rfl))) ?_
              refine ql (.pointer (some ⟨g5, 1, none⟩)) (by kernel_rfl) (by kernel_rfl) ?_
              refine ql (.int .i64 i) (by kernel_rfl) (R_load (p := ⟨g5, 1, none⟩) (by kernel_rfl) (by kernel_rfl) (by kernel_rfl) (HS.cell (i := 2) (j := 1) rfl rfl)) ?_
              refine ql (.pointer (some ⟨g5, 2, none⟩)) (by kernel_rfl) (by kernel_rfl) ?_
              refine ql (.int .i64 t) (by kernel_rfl) (R_load (p := ⟨g5, 2, none⟩) (by kernel_rfl) (by kernel_rfl) (by kernel_rfl) (HS.cell (i := 2) (j := 2) rfl rfl)) ?_
              refine qc (f := 28) (args := #[.agg #[.int .i64 m, .slice B M.length c2, .bool b2], .int .i64 i, .int .i64 t]) (by kernel_rfl) (R_call #[.agg #[.int .i64 m, .slice B M.length c2, .bool b2], .int .i64 i, .int .i64 t] Tryd.func28 (by kernel_rfl) (by kernel_rfl) (by kernel_rfl)) ?_
              replace HS : St W M_ W10 [row B M.length c2 (ci .i64 M) 3 1, blk g9 [.int .i64 0, .slice none 0 0, .bool false] 32, blk g7 [.int .i64 0, .slice none 0 0, .bool false] 32, blk g5 [.int .i64 kd, .int .i64 i, .int .i64 t] 36, blk g3 [.int .i64 m, .slice B M.length c2, .bool b2] 32, blk g1 [.int .i64 n, .slice A L.length c, .bool b] 32, row A L.length c (ci .i64 L) 3 1] := HS.perm (perm_ [6, 0, 1, 2, 3, 4, 5] (by kernel_rfl) rfl)
              refine (r5fill B c2 M m b2 i t _ _ (St.focus (F := [row B M.length c2 (ci .i64 M) 3 1]) HS) hsM hlM hbM h0M hnM).mono ?_
              rintro e W54 ⟨A52, c53, rfl, H_⟩
              refine ⟨_, rfl, ?_⟩
              replace HS : St W M_ W54 [row A52 ((filL m M i t).length) c53 (ci .i64 (filL m M i t)) 3 1, blk g9 [.int .i64 0, .slice none 0 0, .bool false] 32, blk g7 [.int .i64 0, .slice none 0 0, .bool false] 32, blk g5 [.int .i64 kd, .int .i64 i, .int .i64 t] 36, blk g3 [.int .i64 m, .slice B M.length c2, .bool b2] 32, blk g1 [.int .i64 n, .slice A L.length c, .bool b] 32, row A L.length c (ci .i64 L) 3 1] := HS.join (F := [row B M.length c2 (ci .i64 M) 3 1]) (G := [row A52 ((filL m M i t).length) c53 (ci .i64 (filL m M i t)) 3 1]) H_
              clear H_
              refine ks (v := .agg #[.int .i64 m, .slice A52 ((filL m M i t).length) c53, .bool (b2 || decide (8 < (filL m M i t).length))]) HS 4 rfl (0) [.int .i64 m, .slice A52 ((filL m M i t).length) c53, .bool (b2 || decide (8 < (filL m M i t).length))] (by kernel_rfl) (by kernel_rfl) (by kernel_rfl) (by kernel_rfl) (by kernel_rfl) (one_ (by kernel_rfl)) (Nat.le_of_ble_eq_true rfl) rfl ?_
              intro W55 H_
              replace HS : St W M_ W55 [row A52 ((filL m M i t).length) c53 (ci .i64 (filL m M i t)) 3 1, blk g9 [.int .i64 0, .slice none 0 0, .bool false] 32, blk g7 [.int .i64 0, .slice none 0 0, .bool false] 32, blk g5 [.int .i64 kd, .int .i64 i, .int .i64 t] 36, blk g3 [.int .i64 m, .slice A52 ((filL m M i t).length) c53, .bool (b2 || decide (8 < (filL m M i t).length))] 32, blk g1 [.int .i64 n, .slice A L.length c, .bool b] 32, row A L.length c (ci .i64 L) 3 1] := H_
              clear H_
              refine wpList_nil ?_
              refine x_inb ?_
              refine x_then ?_
              refine wp_seq ?_
              refine t_start HS (fun k_ => (blk g9 [.int .i64 0, .slice none 0 0, .bool false] 32).own k_ ∨ (blk g7 [.int .i64 0, .slice none 0 0, .bool false] 32).own k_) 6 (by kernel_rfl) rfl ?_
              intro W56 H_ HD_
              clear HD_
              replace HS : St W M_ W56 [row A52 ((filL m M i t).length) c53 (ci .i64 (filL m M i t)) 3 1, blk g9 [.int .i64 0, .slice none 0 0, .bool false] 32, blk g7 [.int .i64 0, .slice none 0 0, .bool false] 32, blk g5 [.int .i64 kd, .int .i64 i, .int .i64 t] 36, blk g3 [.int .i64 m, .slice A52 ((filL m M i t).length) c53, .bool (b2 || decide (8 < (filL m M i t).length))] 32, blk g1 [.int .i64 n, .slice A L.length c, .bool b] 32, row A L.length c (ci .i64 L) 3 1] := H_
              clear H_
              have HV := HS
              have HK := Kpt.refl (fun k_ => (blk g9 [.int .i64 0, .slice none 0 0, .bool false] 32).own k_ ∨ (blk g7 [.int .i64 0, .slice none 0 0, .bool false] 32).own k_) W56
              refine t_q (n := 5) 0 (.agg #[.int .i64 n, .slice A L.length c, .bool b]) rfl (by kernel_rfl) (by kernel_rfl) (fun _ _ _ h => h) (fun w' hk => (R_loadN (p := ⟨g1, 0, none⟩) [.int .i64 n, .slice A L.length c, .bool b] (by kernel_rfl) (by kernel_rfl) (by kernel_rfl) (by kernel_rfl) (three_at (hk.cellN (fun h_ => h_.elim (HV.sepB (a := 5) (b := 1) (by decide) rfl rfl) (HV.sepB (a := 5) (b := 2) (by decide) rfl rfl)) (HV.cell (i := 5) (j := 0) rfl rfl)) (hk.cellN (fun h_ => h_.elim (HV.sepB (a := 5) (b := 1) (by decide) rfl rfl) (HV.sepB (a := 5) (b := 2) (by decide) rfl rfl)) (HV.cell (i := 5) (j := 1) rfl rfl)) (hk.cellN (fun h_ => h_.elim (HV.sepB (a := 5) (b := 1) (by decide) rfl rfl) (HV.sepB (a := 5) (b := 2) (by decide) rfl rfl)) (HV.cell (i := 5) (j := 2) rfl rfl))))) HK ?_
              refine t_q (n := 4) 1 (.agg #[.int .i64 m, .slice A52 ((filL m M i t).length) c53, .bool (b2 || decide (8 < (filL m M i t).length))]) rfl (by kernel_rfl) (by kernel_rfl) (fun _ _ _ h => h) (fun w' hk => (R_loadN (p := ⟨g3, 0, none⟩) [.int .i64 m, .slice A52 ((filL m M i t).length) c53, .bool (b2 || decide (8 < (filL m M i t).length))] (by kernel_rfl) (by kernel_rfl) (by kernel_rfl) (by kernel_rfl) (three_at (hk.cellN (fun h_ => h_.elim (HV.sepB (a := 4) (b := 1) (by decide) rfl rfl) (HV.sepB (a := 4) (b := 2) (by decide) rfl rfl)) (HV.cell (i := 4) (j := 0) rfl rfl)) (hk.cellN (fun h_ => h_.elim (HV.sepB (a := 4) (b := 1) (by decide) rfl rfl) (HV.sepB (a := 4) (b := 2) (by decide) rfl rfl)) (HV.cell (i := 4) (j := 1) rfl rfl)) (hk.cellN (fun h_ => h_.elim (HV.sepB (a := 4) (b := 1) (by decide) rfl rfl) (HV.sepB (a := 4) (b := 2) (by decide) rfl rfl)) (HV.cell (i := 4) (j := 2) rfl rfl))))) HK ?_
              refine t_q (n := 3) 2 (.bool false) rfl (by kernel_rfl) (by kernel_rfl) (fun _ _ _ h => h) (fun w' hk => (by kernel_rfl)) HK ?_
              obtain ⟨W57, hrun_, H_, hk_⟩ := ex_ks (P := Tryd.prog) (ty := 0) (ps := "ref.go:66") (af := #[{ on := 0, ground := Go.Ground.data }, { on := 0, ground := Go.Ground.phase }, { on := 1, ground := (Go.Ground.textOnly Go.Departure.lateStores) }, { on := 2, ground := (Go.Ground.textOnly Go.Departure.lateStores) }]) (gd := none) (t := 32) (x := (Go.Operand.tmp 6)) (y := (Go.Operand.tmp 62)) (v := .agg #[.int .i64 n, .slice A L.length c, .bool b]) HS 2 rfl (0) [.int .i64 n, .slice A L.length c, .bool b] (by kernel_rfl) (by kernel_rfl) (by kernel_rfl) (by kernel_rfl) (one_ (by kernel_rfl)) (Nat.le_of_ble_eq_true rfl)
              replace HK := HK.trans hk_ (fun _ h_ => .inl (.inr (blk_own h_)))
              refine t_s (n := 2) 3 rfl (by kernel_rfl) (by kernel_rfl) hrun_ HK ?_
              clear hk_ hrun_
              replace HS : St W M_ W57 [row A52 ((filL m M i t).length) c53 (ci .i64 (filL m M i t)) 3 1, blk g9 [.int .i64 0, .slice none 0 0, .bool false] 32, blk g7 [.int .i64 n, .slice A L.length c, .bool b] 32, blk g5 [.int .i64 kd, .int .i64 i, .int .i64 t] 36, blk g3 [.int .i64 m, .slice A52 ((filL m M i t).length) c53, .bool (b2 || decide (8 < (filL m M i t).length))] 32, blk g1 [.int .i64 n, .slice A L.length c, .bool b] 32, row A L.length c (ci .i64 L) 3 1] := H_
              clear H_
              obtain ⟨W58, hrun_, H_, hk_⟩ := ex_ks (P := Tryd.prog) (ty := 0) (ps := "ref.go:66") (af := #[{ on := 1, ground := Go.Ground.data }, { on := 3, ground := Go.Ground.chain }, { on := 0, ground := Go.Ground.phase }, { on := 1, ground := Go.Ground.phase }, { on := 2, ground := (Go.Ground.textOnly Go.Departure.lateStores) }, { on := 3, ground := Go.Ground.phase }]) (gd := none) (t := 32) (x := (Go.Operand.tmp 7)) (y := (Go.Operand.tmp 63)) (v := .agg #[.int .i64 m, .slice A52 ((filL m M i t).length) c53, .bool (b2 || decide (8 < (filL m M i t).length))]) HS 1 rfl (0) [.int .i64 m, .slice A52 ((filL m M i t).length) c53, .bool (b2 || decide (8 < (filL m M i t).length))] (by kernel_rfl) (by kernel_rfl) (by kernel_rfl) (by kernel_rfl) (one_ (by kernel_rfl)) (Nat.le_of_ble_eq_true rfl)
              replace HK := HK.trans hk_ (fun _ h_ => .inl (.inl (blk_own h_)))
              refine t_s (n := 1) 4 rfl (by kernel_rfl) (by kernel_rfl) hrun_ HK ?_
              clear hk_ hrun_
              replace HS : St W M_ W58 [row A52 ((filL m M i t).length) c53 (ci .i64 (filL m M i t)) 3 1, blk g9 [.int .i64 m, .slice A52 ((filL m M i t).length) c53, .bool (b2 || decide (8 < (filL m M i t).length))] 32, blk g7 [.int .i64 n, .slice A L.length c, .bool b] 32, blk g5 [.int .i64 kd, .int .i64 i, .int .i64 t] 36, blk g3 [.int .i64 m, .slice A52 ((filL m M i t).length) c53, .bool (b2 || decide (8 < (filL m M i t).length))] 32, blk g1 [.int .i64 n, .slice A L.length c, .bool b] 32, row A L.length c (ci .i64 L) 3 1] := H_
              clear H_
              refine t_q (n := 0) 5 (.bool false) rfl (by kernel_rfl) (by kernel_rfl) (fun _ _ _ h => h) (fun w' hk => (by kernel_rfl)) HK ?_
              refine t_done (by kernel_rfl) ?_
              clear HV HK
              refine x_then ?_
              refine wp_ret ?_
              refine ret_ (.tuple #[.agg #[.int .i64 n, .slice A L.length c, .bool b], .agg #[.int .i64 m, .slice A52 ((filL m M i t).length) c53, .bool (b2 || decide (8 < (filL m M i t).length))], .bool false]) (res3 rfl (oneRes_agg (p := ⟨g7, 0, none⟩) [.int .i64 n, .slice A L.length c, .bool b] (by kernel_rfl) (by kernel_rfl) (by kernel_rfl) (by kernel_rfl) (HS.cellsN (i := 2) rfl)) (oneRes_agg (p := ⟨g9, 0, none⟩) [.int .i64 m, .slice A52 ((filL m M i t).length) c53, .bool (b2 || decide (8 < (filL m M i t).length))] (by kernel_rfl) (by kernel_rfl) (by kernel_rfl) (by kernel_rfl) (HS.cellsN (i := 1) rfl)) (oneRes_t (by kernel_rfl))) ?_
              replace HS : St W M_ W58 [row A L.length c (ci .i64 L) 3 1, row A52 ((filL m M i t).length) c53 (ci .i64 (filL m M i t)) 3 1] := St.tail (F := [blk g9 [.int .i64 m, .slice A52 ((filL m M i t).length) c53, .bool (b2 || decide (8 < (filL m M i t).length))] 32, blk g7 [.int .i64 n, .slice A L.length c, .bool b] 32, blk g5 [.int .i64 kd, .int .i64 i, .int .i64 t] 36, blk g3 [.int .i64 m, .slice A52 ((filL m M i t).length) c53, .bool (b2 || decide (8 < (filL m M i t).length))] 32, blk g1 [.int .i64 n, .slice A L.length c, .bool b] 32]) (HS.perm (perm_ [1, 2, 3, 4, 5, 6, 0] (by kernel_rfl) rfl))
              have ezL : zL n m kd i t L M = (L) := by unfold zL; rw [if_neg (show ¬ kd = 0 by omega), if_neg (show ¬ kd = 2 by omega), if_neg (show ¬ kd = 4 by omega)]
              have ezM : zM n m kd i t L M = (filL m M i t) := by unfold zM; rw [if_neg (show ¬ kd = 1 by omega), if_neg (show ¬ kd = 3 by omega), if_pos (show kd = 5 by omega)]
              have ezB : zB n m kd i L M = (false) := by unfold zB; rw [if_neg (show ¬ kd = 0 by omega), if_neg (show ¬ kd = 1 by omega), if_neg (show ¬ kd = 2 by omega), if_neg (show ¬ kd = 3 by omega)]
              have ez1 : zb1 n m kd b b2 (zL n m kd i t L M) = b := by rw [ezL, zb1_n (by omega)]; exact hbL.symm
              have ez2 : zb2 n m kd b b2 (zM n m kd i t L M) = (b2 || decide (8 < (filL m M i t).length)) := by rw [ezM]; exact zb2_n (by omega)
              exact ⟨_, _, _, _, by rw [ez1, ez2, ezL, ezM, ezB], by rw [ezL, ezM]; exact HS⟩
            · skip
              refine ql (.bool false) (by kernel_rfl) (R_beq (b := (kd == (5 : Int))) (by kernel_rfl) (beq_f (hc51))) ?_
              refine ql (.bool false) (by kernel_rfl) (by kernel_rfl) ?_
              refine wpList_nil ?_
              refine x_then ?_
              refine wp_cond_false (by kernel_rfl) ?_
              refine wp_skip ?_
              refine x_inb ?_
              refine x_then ?_
              refine wp_seq ?_
              refine t_start HS (fun k_ => (blk g9 [.int .i64 0, .slice none 0 0, .bool false] 32).own k_ ∨ (blk g7 [.int .i64 0, .slice none 0 0, .bool false] 32).own k_) 6 (by kernel_rfl) rfl ?_
              intro W59 H_ HD_
              clear HD_
              replace HS : St W M_ W59 [blk g9 [.int .i64 0, .slice none 0 0, .bool false] 32, blk g7 [.int .i64 0, .slice none 0 0, .bool false] 32, blk g5 [.int .i64 kd, .int .i64 i, .int .i64 t] 36, blk g3 [.int .i64 m, .slice B M.length c2, .bool b2] 32, blk g1 [.int .i64 n, .slice A L.length c, .bool b] 32, row A L.length c (ci .i64 L) 3 1, row B M.length c2 (ci .i64 M) 3 1] := H_
              clear H_
              have HV := HS
              have HK := Kpt.refl (fun k_ => (blk g9 [.int .i64 0, .slice none 0 0, .bool false] 32).own k_ ∨ (blk g7 [.int .i64 0, .slice none 0 0, .bool false] 32).own k_) W59
              refine t_q (n := 5) 0 (.agg #[.int .i64 n, .slice A L.length c, .bool b]) rfl (by kernel_rfl) (by kernel_rfl) (fun _ _ _ h => h) (fun w' hk => (R_loadN (p := ⟨g1, 0, none⟩) [.int .i64 n, .slice A L.length c, .bool b] (by kernel_rfl) (by kernel_rfl) (by kernel_rfl) (by kernel_rfl) (three_at (hk.cellN (fun h_ => h_.elim (HV.sepB (a := 4) (b := 0) (by decide) rfl rfl) (HV.sepB (a := 4) (b := 1) (by decide) rfl rfl)) (HV.cell (i := 4) (j := 0) rfl rfl)) (hk.cellN (fun h_ => h_.elim (HV.sepB (a := 4) (b := 0) (by decide) rfl rfl) (HV.sepB (a := 4) (b := 1) (by decide) rfl rfl)) (HV.cell (i := 4) (j := 1) rfl rfl)) (hk.cellN (fun h_ => h_.elim (HV.sepB (a := 4) (b := 0) (by decide) rfl rfl) (HV.sepB (a := 4) (b := 1) (by decide) rfl rfl)) (HV.cell (i := 4) (j := 2) rfl rfl))))) HK ?_
              refine t_q (n := 4) 1 (.agg #[.int .i64 m, .slice B M.length c2, .bool b2]) rfl (by kernel_rfl) (by kernel_rfl) (fun _ _ _ h => h) (fun w' hk => (R_loadN (p := ⟨g3, 0, none⟩) [.int .i64 m, .slice B M.length c2, .bool b2] (by kernel_rfl) (by kernel_rfl) (by kernel_rfl) (by kernel_rfl) (three_at (hk.cellN (fun h_ => h_.elim (HV.sepB (a := 3) (b := 0) (by decide) rfl rfl) (HV.sepB (a := 3) (b := 1) (by decide) rfl rfl)) (HV.cell (i := 3) (j := 0) rfl rfl)) (hk.cellN (fun h_ => h_.elim (HV.sepB (a := 3) (b := 0) (by decide) rfl rfl) (HV.sepB (a := 3) (b := 1) (by decide) rfl rfl)) (HV.cell (i := 3) (j := 1) rfl rfl)) (hk.cellN (fun h_ => h_.elim (HV.sepB (a := 3) (b := 0) (by decide) rfl rfl) (HV.sepB (a := 3) (b := 1) (by decide) rfl rfl)) (HV.cell (i := 3) (j := 2) rfl rfl))))) HK ?_
              refine t_q (n := 3) 2 (.bool false) rfl (by kernel_rfl) (by kernel_rfl) (fun _ _ _ h => h) (fun w' hk => (by kernel_rfl)) HK ?_
              obtain ⟨W60, hrun_, H_, hk_⟩ := ex_ks (P := Tryd.prog) (ty := 0) (ps := "ref.go:66") (af := #[{ on := 0, ground := Go.Ground.data }, { on := 0, ground := Go.Ground.phase }, { on := 1, ground := (Go.Ground.textOnly Go.Departure.lateStores) }, { on := 2, ground := (Go.Ground.textOnly Go.Departure.lateStores) }]) (gd := none) (t := 32) (x := (Go.Operand.tmp 6)) (y := (Go.Operand.tmp 62)) (v := .agg #[.int .i64 n, .slice A L.length c, .bool b]) HS 1 rfl (0) [.int .i64 n, .slice A L.length c, .bool b] (by kernel_rfl) (by kernel_rfl) (by kernel_rfl) (by kernel_rfl) (one_ (by kernel_rfl)) (Nat.le_of_ble_eq_true rfl)
              replace HK := HK.trans hk_ (fun _ h_ => .inl (.inr (blk_own h_)))
              refine t_s (n := 2) 3 rfl (by kernel_rfl) (by kernel_rfl) hrun_ HK ?_
              clear hk_ hrun_
              replace HS : St W M_ W60 [blk g9 [.int .i64 0, .slice none 0 0, .bool false] 32, blk g7 [.int .i64 n, .slice A L.length c, .bool b] 32, blk g5 [.int .i64 kd, .int .i64 i, .int .i64 t] 36, blk g3 [.int .i64 m, .slice B M.length c2, .bool b2] 32, blk g1 [.int .i64 n, .slice A L.length c, .bool b] 32, row A L.length c (ci .i64 L) 3 1, row B M.length c2 (ci .i64 M) 3 1] := H_
              clear H_
              obtain ⟨W61, hrun_, H_, hk_⟩ := ex_ks (P := Tryd.prog) (ty := 0) (ps := "ref.go:66") (af := #[{ on := 1, ground := Go.Ground.data }, { on := 3, ground := Go.Ground.chain }, { on := 0, ground := Go.Ground.phase }, { on := 1, ground := Go.Ground.phase }, { on := 2, ground := (Go.Ground.textOnly Go.Departure.lateStores) }, { on := 3, ground := Go.Ground.phase }]) (gd := none) (t := 32) (x := (Go.Operand.tmp 7)) (y := (Go.Operand.tmp 63)) (v := .agg #[.int .i64 m, .slice B M.length c2, .bool b2]) HS 0 rfl (0) [.int .i64 m, .slice B M.length c2, .bool b2] (by kernel_rfl) (by kernel_rfl) (by kernel_rfl) (by kernel_rfl) (one_ (by kernel_rfl)) (Nat.le_of_ble_eq_true rfl)
              replace HK := HK.trans hk_ (fun _ h_ => .inl (.inl (blk_own h_)))
              refine t_s (n := 1) 4 rfl (by kernel_rfl) (by kernel_rfl) hrun_ HK ?_
              clear hk_ hrun_
              replace HS : St W M_ W61 [blk g9 [.int .i64 m, .slice B M.length c2, .bool b2] 32, blk g7 [.int .i64 n, .slice A L.length c, .bool b] 32, blk g5 [.int .i64 kd, .int .i64 i, .int .i64 t] 36, blk g3 [.int .i64 m, .slice B M.length c2, .bool b2] 32, blk g1 [.int .i64 n, .slice A L.length c, .bool b] 32, row A L.length c (ci .i64 L) 3 1, row B M.length c2 (ci .i64 M) 3 1] := H_
              clear H_
              refine t_q (n := 0) 5 (.bool false) rfl (by kernel_rfl) (by kernel_rfl) (fun _ _ _ h => h) (fun w' hk => (by kernel_rfl)) HK ?_
              refine t_done (by kernel_rfl) ?_
              clear HV HK
              refine x_then ?_
              refine wp_ret ?_
              refine ret_ (.tuple #[.agg #[.int .i64 n, .slice A L.length c, .bool b], .agg #[.int .i64 m, .slice B M.length c2, .bool b2], .bool false]) (res3 rfl (oneRes_agg (p := ⟨g7, 0, none⟩) [.int .i64 n, .slice A L.length c, .bool b] (by kernel_rfl) (by kernel_rfl) (by kernel_rfl) (by kernel_rfl) (HS.cellsN (i := 1) rfl)) (oneRes_agg (p := ⟨g9, 0, none⟩) [.int .i64 m, .slice B M.length c2, .bool b2] (by kernel_rfl) (by kernel_rfl) (by kernel_rfl) (by kernel_rfl) (HS.cellsN (i := 0) rfl)) (oneRes_t (by kernel_rfl))) ?_
              replace HS := HS.drop1
              replace HS := HS.drop1
              replace HS := HS.drop1
              replace HS := HS.drop1
              replace HS := HS.drop1
              have ezL : zL n m kd i t L M = (L) := by unfold zL; rw [if_neg (show ¬ kd = 0 by omega), if_neg (show ¬ kd = 2 by omega), if_neg (show ¬ kd = 4 by omega)]
              have ezM : zM n m kd i t L M = (M) := by unfold zM; rw [if_neg (show ¬ kd = 1 by omega), if_neg (show ¬ kd = 3 by omega), if_neg (show ¬ kd = 5 by omega)]
              have ezB : zB n m kd i L M = (false) := by unfold zB; rw [if_neg (show ¬ kd = 0 by omega), if_neg (show ¬ kd = 1 by omega), if_neg (show ¬ kd = 2 by omega), if_neg (show ¬ kd = 3 by omega)]
              have ez1 : zb1 n m kd b b2 (zL n m kd i t L M) = b := by rw [ezL, zb1_n (by omega)]; exact hbL.symm
              have ez2 : zb2 n m kd b b2 (zM n m kd i t L M) = b2 := by rw [ezM, zb2_n (by omega)]; exact hbM.symm
              exact ⟨_, _, _, _, by rw [ez1, ez2, ezL, ezM, ezB], by rw [ezL, ezM]; exact HS⟩

set_option maxRecDepth 100000 in
set_option maxHeartbeats 1000000 in
theorem mdoes (g h : Nat) (n m : Int) (L M : List Int) (x y : MxF) (kd i t : Int) (W : World) (M_ : Nat → Prop) (HS : St W M_ W [many (mxE 53 74 21 62 63 g n L x), many (mxE 53 74 21 62 63 h m M y)]) (hx : x.ok n L) (hy : y.ok m M) (h0 : 0 ≤ n) (hn : n ≤ 1048576) (h0m : 0 ≤ m) (hnm : m ≤ 1048576) : Calls Tryd.prog 8 #[.pointer (some ⟨g, 0, none⟩), .pointer (some ⟨h, 0, none⟩), .agg #[.int .i64 kd, .int .i64 i, .int .i64 t]] W fun e W' => ∃ x' y', e = .returned (.bool (zB n m kd i L M)) ∧ St W M_ W' [many (mxE 53 74 21 62 63 g n (zL n m kd i t L M) x'), many (mxE 53 74 21 62 63 h m (zM n m kd i t L M) y')] ∧ x'.ok n (zL n m kd i t L M) ∧ y'.ok m (zM n m kd i t L M) ∧ x'.b = zb1 n m kd x.b y.b (zL n m kd i t L M) ∧ y'.b = zb2 n m kd x.b y.b (zM n m kd i t L M) := by
  refine calls_enter [.pointer (some ⟨g, 0, none⟩), .pointer (some ⟨h, 0, none⟩), .agg #[.int .i64 kd, .int .i64 i, .int .i64 t], undef, undef, undef, undef, undef, undef, undef, undef, undef, undef, undef, undef, undef, undef, undef, undef, undef, undef, undef, undef, undef, undef, undef, undef, undef, undef, undef, undef, undef, undef, undef, undef, undef, undef, undef, undef, undef, undef, undef, undef, undef, undef, undef, undef] Tryd.func8 rfl (by kernel_rfl) ?_
  refine wp_seq ?_
  refine wp_region_lit ?_
  refine kb HS [.int .i64 kd, .int .i64 i, .int .i64 t] 36 (fun g => .pointer (some ⟨g, 0, none⟩)) (by kernel_rfl) (by kernel_rfl) ?_
  intro g1 W2 H_
  replace HS : St W M_ W2 [blk g1 [.int .i64 kd, .int .i64 i, .int .i64 t] 36, many (mxE 53 74 21 62 63 g n L x), many (mxE 53 74 21 62 63 h m M y)] := H_
  clear H_
  refine ql (.bool false) (by kernel_rfl) (by kernel_rfl) ?_
  refine wpList_nil ?_
  refine x_then ?_
  refine wp_seq ?_
  refine wp_seq ?_
  refine wp_region_lit ?_
  refine ql (.pointer (some ⟨g1, 0, none⟩)) (by kernel_rfl) (by kernel_rfl) ?_
  refine ql (.int .i64 kd) (by kernel_rfl) (R_load (p := ⟨g1, 0, none⟩) (by kernel_rfl) (by kernel_rfl) (by kernel_rfl) (HS.cell (i := 0) (j := 0) rfl rfl)) ?_
  refine wpList_nil ?_
  refine x_then ?_
  refine wp_block ?_
  refine wp_seq ?_
  refine wp_region_lit ?_
  by_cases hc3 : kd = (0 : Int)
  · skip
    refine ql (.bool true) (by kernel_rfl) (R_beq (b := (kd == (0 : Int))) (by kernel_rfl) (beq_t (hc3))) ?_
    refine ql (.bool true) (by kernel_rfl) (by kernel_rfl) ?_
    refine wpList_nil ?_
    refine x_then ?_
    refine wp_cond_true (by kernel_rfl) ?_
    refine wp_seq ?_
    refine wp_region_lit ?_
    refine ql (.pointer (some ⟨g, 0, none⟩)) (by kernel_rfl) (by kernel_rfl) ?_
    refine ql (.pointer (some ⟨g1, 1, none⟩)) (by kernel_rfl) (by kernel_rfl) ?_
    refine ql (.int .i64 i) (by kernel_rfl) (R_load (p := ⟨g1, 1, none⟩) (by kernel_rfl) (by kernel_rfl) (by kernel_rfl) (HS.cell (i := 0) (j := 1) rfl rfl)) ?_
    refine qc (f := 11) (args := #[.pointer (some ⟨g, 0, none⟩), .int .i64 i]) (by kernel_rfl) (R_call #[.pointer (some ⟨g, 0, none⟩), .int .i64 i] Tryd.func11 (by kernel_rfl) (by kernel_rfl) (by kernel_rfl)) ?_
    replace HS : St W M_ W2 [many (mxE 53 74 21 62 63 g n L x), blk g1 [.int .i64 kd, .int .i64 i, .int .i64 t] 36, many (mxE 53 74 21 62 63 h m M y)] := HS.perm (perm_ [1, 0, 2] (by kernel_rfl) rfl)
    refine (madd g n L x i _ _ (St.focus (F := [many (mxE 53 74 21 62 63 g n L x)]) HS) hx (by omega) (by omega)).mono ?_
    rintro e W7 ⟨x4, rfl, H_, hok5, hb6⟩
    refine ⟨_, rfl, ?_⟩
    replace HS : St W M_ W7 [many (mxE 53 74 21 62 63 g n (addL n L i) x4), blk g1 [.int .i64 kd, .int .i64 i, .int .i64 t] 36, many (mxE 53 74 21 62 63 h m M y)] := HS.join (F := [many (mxE 53 74 21 62 63 g n L x)]) (G := [many (mxE 53 74 21 62 63 g n (addL n L i) x4)]) H_
    clear H_
    refine ql (.bool (addB n L i)) (by kernel_rfl) (by kernel_rfl) ?_
    refine wpList_nil ?_
    refine x_then ?_
    refine wp_ret ?_
    refine x_inbR ?_
    refine x_thenR ?_
    refine ret_ (.bool (addB n L i)) (by kernel_rfl) ?_
    replace HS : St W M_ W7 [many (mxE 53 74 21 62 63 g n (addL n L i) x4), many (mxE 53 74 21 62 63 h m M y)] := St.tail (F := [blk g1 [.int .i64 kd, .int .i64 i, .int .i64 t] 36]) (HS.perm (perm_ [1, 0, 2] (by kernel_rfl) rfl))
    have ezL : zL n m kd i t L M = (addL n L i) := by unfold zL; rw [if_pos (show kd = 0 by omega)]
    have ezM : zM n m kd i t L M = (M) := by unfold zM; rw [if_neg (show ¬ kd = 1 by omega), if_neg (show ¬ kd = 3 by omega), if_neg (show ¬ kd = 5 by omega)]
    have ezB : zB n m kd i L M = (addB n L i) := by unfold zB; rw [if_pos (show kd = 0 by omega)]
    have ez1 : zb1 n m kd x.b y.b (zL n m kd i t L M) = (x.b || decide (8 < (addL n L i).length)) := by rw [ezL]; exact zb1_n (by omega)
    have ez2 : zb2 n m kd x.b y.b (zM n m kd i t L M) = y.b := by rw [ezM, zb2_n (by omega)]; exact (b_or hy).symm
    exact ⟨x4, y, by rw [ezB], by rw [ezL, ezM]; exact HS, by rw [ezL]; exact hok5, by rw [ezM]; exact hy, by rw [ez1]; exact hb6, by rw [ez2]⟩
  · skip
    refine ql (.bool false) (by kernel_rfl) (R_beq (b := (kd == (0 : Int))) (by kernel_rfl) (beq_f (hc3))) ?_
    refine ql (.bool false) (by kernel_rfl) (by kernel_rfl) ?_
    refine wpList_nil ?_
    refine x_then ?_
    refine wp_cond_false (by kernel_rfl) ?_
    refine wp_seq ?_
    refine wp_region_lit ?_
    by_cases hc8 : kd = (1 : Int)
    · skip
      refine ql (.bool true) (by kernel_rfl) (R_beq (b := (kd == (1 : Int))) (by kernel_rfl) (beq_t (hc8))) ?_
      refine ql (.bool true) (by kernel_rfl) (by kernel_rfl) ?_
      refine wpList_nil ?_
      refine x_then ?_
      refine wp_cond_true (by kernel_rfl) ?_
      refine wp_seq ?_
      refine wp_region_lit ?_
      refine ql (.pointer (some ⟨h, 0, none⟩)) (by kernel_rfl) (by kernel_rfl) ?_
      refine ql (.pointer (some ⟨g1, 1, none⟩)) (by kernel_rfl) (by kernel_rfl) ?_
      refine ql (.int .i64 i) (by kernel_rfl) (R_load (p := ⟨g1, 1, none⟩) (by kernel_rfl) (by kernel_rfl) (by kernel_rfl) (HS.cell (i := 0) (j := 1) rfl rfl)) ?_
      refine qc (f := 11) (args := #[.pointer (some ⟨h, 0, none⟩), .int .i64 i]) (by kernel_rfl) (R_call #[.pointer (some ⟨h, 0, none⟩), .int .i64 i] Tryd.func11 (by kernel_rfl) (by kernel_rfl) (by kernel_rfl)) ?_
      replace HS : St W M_ W2 [many (mxE 53 74 21 62 63 h m M y), blk g1 [.int .i64 kd, .int .i64 i, .int .i64 t] 36, many (mxE 53 74 21 62 63 g n L x)] := HS.perm (perm_ [2, 0, 1] (by kernel_rfl) rfl)
      refine (madd h m M y i _ _ (St.focus (F := [many (mxE 53 74 21 62 63 h m M y)]) HS) hy (by omega) (by omega)).mono ?_
      rintro e W12 ⟨x9, rfl, H_, hok10, hb11⟩
      refine ⟨_, rfl, ?_⟩
      replace HS : St W M_ W12 [many (mxE 53 74 21 62 63 h m (addL m M i) x9), blk g1 [.int .i64 kd, .int .i64 i, .int .i64 t] 36, many (mxE 53 74 21 62 63 g n L x)] := HS.join (F := [many (mxE 53 74 21 62 63 h m M y)]) (G := [many (mxE 53 74 21 62 63 h m (addL m M i) x9)]) H_
      clear H_
      refine ql (.bool (addB m M i)) (by kernel_rfl) (by kernel_rfl) ?_
      refine wpList_nil ?_
      refine x_then ?_
      refine wp_ret ?_
      refine x_inbR ?_
      refine x_thenR ?_
      refine ret_ (.bool (addB m M i)) (by kernel_rfl) ?_
      replace HS : St W M_ W12 [many (mxE 53 74 21 62 63 g n L x), many (mxE 53 74 21 62 63 h m (addL m M i) x9)] := St.tail (F := [blk g1 [.int .i64 kd, .int .i64 i, .int .i64 t] 36]) (HS.perm (perm_ [1, 2, 0] (by kernel_rfl) rfl))
      have ezL : zL n m kd i t L M = (L) := by unfold zL; rw [if_neg (show ¬ kd = 0 by omega), if_neg (show ¬ kd = 2 by omega), if_neg (show ¬ kd = 4 by omega)]
      have ezM : zM n m kd i t L M = (addL m M i) := by unfold zM; rw [if_pos (show kd = 1 by omega)]
      have ezB : zB n m kd i L M = (addB m M i) := by unfold zB; rw [if_neg (show ¬ kd = 0 by omega), if_pos (show kd = 1 by omega)]
      have ez1 : zb1 n m kd x.b y.b (zL n m kd i t L M) = x.b := by rw [ezL, zb1_n (by omega)]; exact (b_or hx).symm
      have ez2 : zb2 n m kd x.b y.b (zM n m kd i t L M) = (y.b || decide (8 < (addL m M i).length)) := by rw [ezM]; exact zb2_n (by omega)
      exact ⟨x, x9, by rw [ezB], by rw [ezL, ezM]; exact HS, by rw [ezL]; exact hx, by rw [ezM]; exact hok10, by rw [ez1], by rw [ez2]; exact hb11⟩
    · skip
      refine ql (.bool false) (by kernel_rfl) (R_beq (b := (kd == (1 : Int))) (by kernel_rfl) (beq_f (hc8))) ?_
      refine ql (.bool false) (by kernel_rfl) (by kernel_rfl) ?_
      refine wpList_nil ?_
      refine x_then ?_
      refine wp_cond_false (by kernel_rfl) ?_
      refine wp_seq ?_
      refine wp_region_lit ?_
      by_cases hc13 : kd = (2 : Int)
      · skip
        refine ql (.bool true) (by kernel_rfl) (R_beq (b := (kd == (2 : Int))) (by kernel_rfl) (beq_t (hc13))) ?_
        refine ql (.bool true) (by kernel_rfl) (by kernel_rfl) ?_
        refine wpList_nil ?_
        refine x_then ?_
        refine wp_cond_true (by kernel_rfl) ?_
        refine wp_seq ?_
        refine wp_region_lit ?_
        refine ql (.pointer (some ⟨g, 0, none⟩)) (by kernel_rfl) (by kernel_rfl) ?_
        refine ql (.pointer (some ⟨h, 0, none⟩)) (by kernel_rfl) (by kernel_rfl) ?_
        refine qc (f := 22) (args := #[.pointer (some ⟨g, 0, none⟩), .pointer (some ⟨h, 0, none⟩)]) (by kernel_rfl) (R_call #[.pointer (some ⟨g, 0, none⟩), .pointer (some ⟨h, 0, none⟩)] Tryd.func22 (by kernel_rfl) (by kernel_rfl) (by kernel_rfl)) ?_
        replace HS : St W M_ W2 [many (mxE 53 74 21 62 63 g n L x), many (mxE 53 74 21 62 63 h m M y), blk g1 [.int .i64 kd, .int .i64 i, .int .i64 t] 36] := HS.perm (perm_ [1, 2, 0] (by kernel_rfl) rfl)
        refine (mor g h n m L M x y _ _ (St.focus (F := [many (mxE 53 74 21 62 63 g n L x), many (mxE 53 74 21 62 63 h m M y)]) HS) hx hy (by omega) (by omega)).mono ?_
        rintro e W17 ⟨x14, rfl, H_, hok15, hb16⟩
        refine ⟨_, rfl, ?_⟩
        replace HS : St W M_ W17 [many (mxE 53 74 21 62 63 g n (if n = m then uni L M else L) x14), many (mxE 53 74 21 62 63 h m M y), blk g1 [.int .i64 kd, .int .i64 i, .int .i64 t] 36] := HS.join (F := [many (mxE 53 74 21 62 63 g n L x), many (mxE 53 74 21 62 63 h m M y)]) (G := [many (mxE 53 74 21 62 63 g n (if n = m then uni L M else L) x14), many (mxE 53 74 21 62 63 h m M y)]) H_
        clear H_
        refine ql (.bool (if n = m then newB L M else false)) (by kernel_rfl) (by kernel_rfl) ?_
        refine wpList_nil ?_
        refine x_then ?_
        refine wp_ret ?_
        refine x_inbR ?_
        refine x_thenR ?_
        refine ret_ (.bool (if n = m then newB L M else false)) (by kernel_rfl) ?_
        replace HS : St W M_ W17 [many (mxE 53 74 21 62 63 g n (if n = m then uni L M else L) x14), many (mxE 53 74 21 62 63 h m M y)] := St.tail (F := [blk g1 [.int .i64 kd, .int .i64 i, .int .i64 t] 36]) (HS.perm (perm_ [2, 0, 1] (by kernel_rfl) rfl))
        have ezL : zL n m kd i t L M = (if n = m then uni L M else L) := by unfold zL; rw [if_neg (show ¬ kd = 0 by omega), if_pos (show kd = 2 by omega)]
        have ezM : zM n m kd i t L M = (M) := by unfold zM; rw [if_neg (show ¬ kd = 1 by omega), if_neg (show ¬ kd = 3 by omega), if_neg (show ¬ kd = 5 by omega)]
        have ezB : zB n m kd i L M = (if n = m then newB L M else false) := by unfold zB; rw [if_neg (show ¬ kd = 0 by omega), if_neg (show ¬ kd = 1 by omega), if_pos (show kd = 2 by omega)]
        have ez1 : zb1 n m kd x.b y.b (zL n m kd i t L M) = (x.b || (decide (n = m) && y.b) || decide (8 < (if n = m then uni L M else L).length)) := by rw [ezL]; exact zb1_2 (by omega)
        have ez2 : zb2 n m kd x.b y.b (zM n m kd i t L M) = y.b := by rw [ezM, zb2_n (by omega)]; exact (b_or hy).symm
        exact ⟨x14, y, by rw [ezB], by rw [ezL, ezM]; exact HS, by rw [ezL]; exact hok15, by rw [ezM]; exact hy, by rw [ez1]; exact hb16, by rw [ez2]⟩
      · skip
        refine ql (.bool false) (by kernel_rfl) (R_beq (b := (kd == (2 : Int))) (by kernel_rfl) (beq_f (hc13))) ?_
        refine ql (.bool false) (by kernel_rfl) (by kernel_rfl) ?_
        refine wpList_nil ?_
        refine x_then ?_
        refine wp_cond_false (by kernel_rfl) ?_
        refine wp_seq ?_
        refine wp_region_lit ?_
        by_cases hc18 : kd = (3 : Int)
        · skip
          refine ql (.bool true) (by kernel_rfl) (R_beq (b := (kd == (3 : Int))) (by kernel_rfl) (beq_t (hc18))) ?_
          refine ql (.bool true) (by kernel_rfl) (by kernel_rfl) ?_
          refine wpList_nil ?_
          refine x_then ?_
          refine wp_cond_true (by kernel_rfl) ?_
          refine wp_seq ?_
          refine wp_region_lit ?_
          refine ql (.pointer (some ⟨h, 0, none⟩)) (by kernel_rfl) (by kernel_rfl) ?_
          refine ql (.pointer (some ⟨g, 0, none⟩)) (by kernel_rfl) (by kernel_rfl) ?_
          refine qc (f := 22) (args := #[.pointer (some ⟨h, 0, none⟩), .pointer (some ⟨g, 0, none⟩)]) (by kernel_rfl) (R_call #[.pointer (some ⟨h, 0, none⟩), .pointer (some ⟨g, 0, none⟩)] Tryd.func22 (by kernel_rfl) (by kernel_rfl) (by kernel_rfl)) ?_
          replace HS : St W M_ W2 [many (mxE 53 74 21 62 63 h m M y), many (mxE 53 74 21 62 63 g n L x), blk g1 [.int .i64 kd, .int .i64 i, .int .i64 t] 36] := HS.perm (perm_ [2, 1, 0] (by kernel_rfl) rfl)
          refine (mor h g m n M L y x _ _ (St.focus (F := [many (mxE 53 74 21 62 63 h m M y), many (mxE 53 74 21 62 63 g n L x)]) HS) hy hx (by omega) (by omega)).mono ?_
          rintro e W22 ⟨x19, rfl, H_, hok20, hb21⟩
          refine ⟨_, rfl, ?_⟩
          replace HS : St W M_ W22 [many (mxE 53 74 21 62 63 h m (if m = n then uni M L else M) x19), many (mxE 53 74 21 62 63 g n L x), blk g1 [.int .i64 kd, .int .i64 i, .int .i64 t] 36] := HS.join (F := [many (mxE 53 74 21 62 63 h m M y), many (mxE 53 74 21 62 63 g n L x)]) (G := [many (mxE 53 74 21 62 63 h m (if m = n then uni M L else M) x19), many (mxE 53 74 21 62 63 g n L x)]) H_
          clear H_
          refine ql (.bool (if m = n then newB M L else false)) (by kernel_rfl) (by kernel_rfl) ?_
          refine wpList_nil ?_
          refine x_then ?_
          refine wp_ret ?_
          refine x_inbR ?_
          refine x_thenR ?_
          refine ret_ (.bool (if m = n then newB M L else false)) (by kernel_rfl) ?_
          replace HS : St W M_ W22 [many (mxE 53 74 21 62 63 g n L x), many (mxE 53 74 21 62 63 h m (if m = n then uni M L else M) x19)] := St.tail (F := [blk g1 [.int .i64 kd, .int .i64 i, .int .i64 t] 36]) (HS.perm (perm_ [2, 1, 0] (by kernel_rfl) rfl))
          have ezL : zL n m kd i t L M = (L) := by unfold zL; rw [if_neg (show ¬ kd = 0 by omega), if_neg (show ¬ kd = 2 by omega), if_neg (show ¬ kd = 4 by omega)]
          have ezM : zM n m kd i t L M = (if m = n then uni M L else M) := by unfold zM; rw [if_neg (show ¬ kd = 1 by omega), if_pos (show kd = 3 by omega)]
          have ezB : zB n m kd i L M = (if m = n then newB M L else false) := by unfold zB; rw [if_neg (show ¬ kd = 0 by omega), if_neg (show ¬ kd = 1 by omega), if_neg (show ¬ kd = 2 by omega), if_pos (show kd = 3 by omega)]
          have ez1 : zb1 n m kd x.b y.b (zL n m kd i t L M) = x.b := by rw [ezL, zb1_n (by omega)]; exact (b_or hx).symm
          have ez2 : zb2 n m kd x.b y.b (zM n m kd i t L M) = (y.b || (decide (m = n) && x.b) || decide (8 < (if m = n then uni M L else M).length)) := by rw [ezM]; exact zb2_3 (by omega)
          exact ⟨x, x19, by rw [ezB], by rw [ezL, ezM]; exact HS, by rw [ezL]; exact hx, by rw [ezM]; exact hok20, by rw [ez1], by rw [ez2]; exact hb21⟩
        · skip
          refine ql (.bool false) (by kernel_rfl) (R_beq (b := (kd == (3 : Int))) (by kernel_rfl) (beq_f (hc18))) ?_
          refine ql (.bool false) (by kernel_rfl) (by kernel_rfl) ?_
          refine wpList_nil ?_
          refine x_then ?_
          refine wp_cond_false (by kernel_rfl) ?_
          refine wp_seq ?_
          refine wp_region_lit ?_
          by_cases hc23 : kd = (4 : Int)
          · skip
            refine ql (.bool true) (by kernel_rfl) (R_beq (b := (kd == (4 : Int))) (by kernel_rfl) (beq_t (hc23))) ?_
            refine ql (.bool true) (by kernel_rfl) (by kernel_rfl) ?_
            refine wpList_nil ?_
            refine x_then ?_
            refine wp_cond_true (by kernel_rfl) ?_
            refine wp_region_lit ?_
            refine ql (.pointer (some ⟨g, 0, none⟩)) (by kernel_rfl) (by kernel_rfl) ?_
            refine ql (.pointer (some ⟨g1, 1, none⟩)) (by kernel_rfl) (by kernel_rfl) ?_
            refine ql (.int .i64 i) (by kernel_rfl) (R_load (p := ⟨g1, 1, none⟩) (by kernel_rfl) (by kernel_rfl) (by kernel_rfl) (HS.cell (i := 0) (j := 1) rfl rfl)) ?_
            refine ql (.pointer (some ⟨g1, 2, none⟩)) (by kernel_rfl) (by kernel_rfl) ?_
            refine ql (.int .i64 t) (by kernel_rfl) (R_load (p := ⟨g1, 2, none⟩) (by kernel_rfl) (by kernel_rfl) (by kernel_rfl) (HS.cell (i := 0) (j := 2) rfl rfl)) ?_
            refine qc (f := 17) (args := #[.pointer (some ⟨g, 0, none⟩), .int .i64 i, .int .i64 t]) (by kernel_rfl) (R_call #[.pointer (some ⟨g, 0, none⟩), .int .i64 i, .int .i64 t] Tryd.func17 (by kernel_rfl) (by kernel_rfl) (by kernel_rfl)) ?_
            replace HS : St W M_ W2 [many (mxE 53 74 21 62 63 g n L x), blk g1 [.int .i64 kd, .int .i64 i, .int .i64 t] 36, many (mxE 53 74 21 62 63 h m M y)] := HS.perm (perm_ [1, 0, 2] (by kernel_rfl) rfl)
            refine (mfill g n L x i t _ _ (St.focus (F := [many (mxE 53 74 21 62 63 g n L x)]) HS) hx (by omega) (by omega)).mono ?_
            rintro e W27 ⟨x24, rfl, H_, hok25, hb26⟩
            refine ⟨_, rfl, ?_⟩
            replace HS : St W M_ W27 [many (mxE 53 74 21 62 63 g n (filL n L i t) x24), blk g1 [.int .i64 kd, .int .i64 i, .int .i64 t] 36, many (mxE 53 74 21 62 63 h m M y)] := HS.join (F := [many (mxE 53 74 21 62 63 g n L x)]) (G := [many (mxE 53 74 21 62 63 g n (filL n L i t) x24)]) H_
            clear H_
            refine wpList_nil ?_
            refine x_inb ?_
            refine x_then ?_
            refine wp_seq ?_
            refine wp_region_lit ?_
            refine ql (.bool false) (by kernel_rfl) (by kernel_rfl) ?_
            refine wpList_nil ?_
            refine x_then ?_
            refine wp_ret ?_
            refine ret_ (.bool false) (by kernel_rfl) ?_
            replace HS : St W M_ W27 [many (mxE 53 74 21 62 63 g n (filL n L i t) x24), many (mxE 53 74 21 62 63 h m M y)] := St.tail (F := [blk g1 [.int .i64 kd, .int .i64 i, .int .i64 t] 36]) (HS.perm (perm_ [1, 0, 2] (by kernel_rfl) rfl))
            have ezL : zL n m kd i t L M = (filL n L i t) := by unfold zL; rw [if_neg (show ¬ kd = 0 by omega), if_neg (show ¬ kd = 2 by omega), if_pos (show kd = 4 by omega)]
            have ezM : zM n m kd i t L M = (M) := by unfold zM; rw [if_neg (show ¬ kd = 1 by omega), if_neg (show ¬ kd = 3 by omega), if_neg (show ¬ kd = 5 by omega)]
            have ezB : zB n m kd i L M = (false) := by unfold zB; rw [if_neg (show ¬ kd = 0 by omega), if_neg (show ¬ kd = 1 by omega), if_neg (show ¬ kd = 2 by omega), if_neg (show ¬ kd = 3 by omega)]
            have ez1 : zb1 n m kd x.b y.b (zL n m kd i t L M) = (x.b || decide (8 < (filL n L i t).length)) := by rw [ezL]; exact zb1_n (by omega)
            have ez2 : zb2 n m kd x.b y.b (zM n m kd i t L M) = y.b := by rw [ezM, zb2_n (by omega)]; exact (b_or hy).symm
            exact ⟨x24, y, by rw [ezB], by rw [ezL, ezM]; exact HS, by rw [ezL]; exact hok25, by rw [ezM]; exact hy, by rw [ez1]; exact hb26, by rw [ez2]⟩
          · skip
            refine ql (.bool false) (by kernel_rfl) (R_beq (b := (kd == (4 : Int))) (by kernel_rfl) (beq_f (hc23))) ?_
            refine ql (.bool false) (by kernel_rfl) (by kernel_rfl) ?_
            refine wpList_nil ?_
            refine x_then ?_
            refine wp_cond_false (by kernel_rfl) ?_
            refine wp_seq ?_
            refine wp_region_lit ?_
            by_cases hc28 : kd = (5 : Int)
            · skip
              refine ql (.bool true) (by kernel_rfl) (R_beq (b := (kd == (5 : Int))) (by kernel_rfl) (beq_t (hc28))) ?_
              refine ql (.bool true) (by kernel_rfl) (by kernel_rfl) ?_
              refine wpList_nil ?_
              refine x_then ?_
              refine wp_cond_true (by kernel_rfl) ?_
              refine wp_region_lit ?_
              refine ql (.pointer (some ⟨h, 0, none⟩)) (by kernel_rfl) (by kernel_rfl) ?_
              refine ql (.pointer (some ⟨g1, 1, none⟩)) (by kernel_rfl) (by kernel_rfl) ?_
              refine ql (.int .i64 i) (by kernel_rfl) (R_load (p := ⟨g1, 1, none⟩) (by kernel_rfl) (by kernel_rfl) (by kernel_rfl) (HS.cell (i := 0) (j := 1) rfl rfl)) ?_
              refine ql (.pointer (some ⟨g1, 2, none⟩)) (by kernel_rfl) (by kernel_rfl) ?_
              refine ql (.int .i64 t) (by kernel_rfl) (R_load (p := ⟨g1, 2, none⟩) (by kernel_rfl) (by kernel_rfl) (by kernel_rfl) (HS.cell (i := 0) (j := 2) rfl rfl)) ?_
              refine qc (f := 17) (args := #[.pointer (some ⟨h, 0, none⟩), .int .i64 i, .int .i64 t]) (by kernel_rfl) (R_call #[.pointer (some ⟨h, 0, none⟩), .int .i64 i, .int .i64 t] Tryd.func17 (by kernel_rfl) (by kernel_rfl) (by kernel_rfl)) ?_
              replace HS : St W M_ W2 [many (mxE 53 74 21 62 63 h m M y), blk g1 [.int .i64 kd, .int .i64 i, .int .i64 t] 36, many (mxE 53 74 21 62 63 g n L x)] := HS.perm (perm_ [2, 0, 1] (by kernel_rfl) rfl)
              refine (mfill h m M y i t _ _ (St.focus (F := [many (mxE 53 74 21 62 63 h m M y)]) HS) hy (by omega) (by omega)).mono ?_
              rintro e W32 ⟨x29, rfl, H_, hok30, hb31⟩
              refine ⟨_, rfl, ?_⟩
              replace HS : St W M_ W32 [many (mxE 53 74 21 62 63 h m (filL m M i t) x29), blk g1 [.int .i64 kd, .int .i64 i, .int .i64 t] 36, many (mxE 53 74 21 62 63 g n L x)] := HS.join (F := [many (mxE 53 74 21 62 63 h m M y)]) (G := [many (mxE 53 74 21 62 63 h m (filL m M i t) x29)]) H_
              clear H_
              refine wpList_nil ?_
              refine x_inb ?_
              refine x_then ?_
              refine wp_seq ?_
              refine wp_region_lit ?_
              refine ql (.bool false) (by kernel_rfl) (by kernel_rfl) ?_
              refine wpList_nil ?_
              refine x_then ?_
              refine wp_ret ?_
              refine ret_ (.bool false) (by kernel_rfl) ?_
              replace HS : St W M_ W32 [many (mxE 53 74 21 62 63 g n L x), many (mxE 53 74 21 62 63 h m (filL m M i t) x29)] := St.tail (F := [blk g1 [.int .i64 kd, .int .i64 i, .int .i64 t] 36]) (HS.perm (perm_ [1, 2, 0] (by kernel_rfl) rfl))
              have ezL : zL n m kd i t L M = (L) := by unfold zL; rw [if_neg (show ¬ kd = 0 by omega), if_neg (show ¬ kd = 2 by omega), if_neg (show ¬ kd = 4 by omega)]
              have ezM : zM n m kd i t L M = (filL m M i t) := by unfold zM; rw [if_neg (show ¬ kd = 1 by omega), if_neg (show ¬ kd = 3 by omega), if_pos (show kd = 5 by omega)]
              have ezB : zB n m kd i L M = (false) := by unfold zB; rw [if_neg (show ¬ kd = 0 by omega), if_neg (show ¬ kd = 1 by omega), if_neg (show ¬ kd = 2 by omega), if_neg (show ¬ kd = 3 by omega)]
              have ez1 : zb1 n m kd x.b y.b (zL n m kd i t L M) = x.b := by rw [ezL, zb1_n (by omega)]; exact (b_or hx).symm
              have ez2 : zb2 n m kd x.b y.b (zM n m kd i t L M) = (y.b || decide (8 < (filL m M i t).length)) := by rw [ezM]; exact zb2_n (by omega)
              exact ⟨x, x29, by rw [ezB], by rw [ezL, ezM]; exact HS, by rw [ezL]; exact hx, by rw [ezM]; exact hok30, by rw [ez1], by rw [ez2]; exact hb31⟩
            · skip
              refine ql (.bool false) (by kernel_rfl) (R_beq (b := (kd == (5 : Int))) (by kernel_rfl) (beq_f (hc28))) ?_
              refine ql (.bool false) (by kernel_rfl) (by kernel_rfl) ?_
              refine wpList_nil ?_
              refine x_then ?_
              refine wp_cond_false (by kernel_rfl) ?_
              refine wp_skip ?_
              refine x_inb ?_
              refine x_then ?_
              refine wp_seq ?_
              refine wp_region_lit ?_
              refine ql (.bool false) (by kernel_rfl) (by kernel_rfl) ?_
              refine wpList_nil ?_
              refine x_then ?_
              refine wp_ret ?_
              refine ret_ (.bool false) (by kernel_rfl) ?_
              replace HS := HS.drop1
              have ezL : zL n m kd i t L M = (L) := by unfold zL; rw [if_neg (show ¬ kd = 0 by omega), if_neg (show ¬ kd = 2 by omega), if_neg (show ¬ kd = 4 by omega)]
              have ezM : zM n m kd i t L M = (M) := by unfold zM; rw [if_neg (show ¬ kd = 1 by omega), if_neg (show ¬ kd = 3 by omega), if_neg (show ¬ kd = 5 by omega)]
              have ezB : zB n m kd i L M = (false) := by unfold zB; rw [if_neg (show ¬ kd = 0 by omega), if_neg (show ¬ kd = 1 by omega), if_neg (show ¬ kd = 2 by omega), if_neg (show ¬ kd = 3 by omega)]
              have ez1 : zb1 n m kd x.b y.b (zL n m kd i t L M) = x.b := by rw [ezL, zb1_n (by omega)]; exact (b_or hx).symm
              have ez2 : zb2 n m kd x.b y.b (zM n m kd i t L M) = y.b := by rw [ezM, zb2_n (by omega)]; exact (b_or hy).symm
              exact ⟨x, y, by rw [ezB], by rw [ezL, ezM]; exact HS, by rw [ezL]; exact hx, by rw [ezM]; exact hy, by rw [ez1], by rw [ez2]⟩

set_option maxRecDepth 100000 in
set_option maxHeartbeats 1000000 in
theorem mtells_few (g q c : Nat) (A : Option Addr) (n : Int) (L : List Int) (Aw : Option Addr) (cw : Nat) (i : Int) (W : World) (hz0 : W.cell? ⟨g, 0, none⟩ = some (.pointer (some ⟨q, 0, none⟩))) (hz1 : W.cell? ⟨g, 1, none⟩ = some (.pointer none)) (hz2 : W.cell? ⟨g, 2, none⟩ = some (.int .i64 n)) (hq0 : W.cell? ⟨q, 0, none⟩ = some (.slice A L.length c)) (hr : Rd W A (ci .i32 L)) (hs : S31 L) (hl : L.length ≤ 100000) (hn : n ≤ 1048576) (h0 : 0 ≤ n) (hT : TabAt64 W) (hw : Rd W Aw (ci .i64 L)) (hll : L.length ≤ 50000) : Calls Tryd.prog 9 #[.pointer (some ⟨g, 0, none⟩), .agg #[.int .i64 n, .slice Aw L.length cw, .bool false], .int .i64 i] W fun e W' => e = .returned (.bool true) ∧ St W (owns []) W' [] := by
  have HS : St W (owns []) W [] := St.start W _
  refine calls_enter ((.pointer (some ⟨g, 0, none⟩)) :: (.agg #[.int .i64 n, .slice Aw L.length cw, .bool false]) :: (.int .i64 i) :: undef :: undef :: undef :: undef :: undef :: undef :: undef :: undef :: undef :: undef :: undef :: undef :: undef :: undef :: undef :: undef :: undef :: undef :: undef :: undef :: undef :: undef :: undef :: undef :: undef :: undef :: undef :: undef :: undef :: undef :: undef :: undef :: undef :: undef :: undef :: undef :: undef :: undef :: undef :: undef :: undef :: undef :: undef :: undef :: undef :: undef :: undef :: undef :: undef :: undef :: undef :: []) Tryd.func9 rfl (by kernel_rfl) ?_
  refine wp_seq ?_
  refine wp_region_lit ?_
  refine kb HS [.int .i64 n, .slice Aw L.length cw, .bool false] 32 (fun g => .pointer (some ⟨g, 0, none⟩)) (by kernel_rfl) (by kernel_rfl) ?_
  intro g1 W2 H_
  replace HS : St W (owns []) W2 [blk g1 [.int .i64 n, .slice Aw L.length cw, .bool false] 32] := H_
  clear H_
  refine ql (.bool false) (by kernel_rfl) (by kernel_rfl) ?_
  refine wpList_nil ?_
  refine x_then ?_
  refine wp_seq ?_
  refine t_start HS (fun _ => False) 48 (by kernel_rfl) rfl ?_
  intro W3 H_ HD_
  clear HD_
  replace HS : St W (owns []) W3 [blk g1 [.int .i64 n, .slice Aw L.length cw, .bool false] 32] := H_
  clear H_
  have HV := HS
  have HK := Kpt.refl (fun _ => False) W3
  refine t_q (n := 47) 0 (.pointer (some ⟨g, 0, none⟩)) rfl (by kernel_rfl) (by kernel_rfl) (fun _ _ _ h => h) (fun w' hk => (by kernel_rfl)) HK ?_
  refine t_q (n := 46) 2 (.pointer (some ⟨g1, 0, none⟩)) rfl (by kernel_rfl) (by kernel_rfl) (fun _ _ _ h => h) (fun w' hk => (by kernel_rfl)) HK ?_
  refine t_q (n := 45) 3 (.pointer (some ⟨g1, 0, none⟩)) rfl (by kernel_rfl) (by kernel_rfl) (fun _ _ _ h => h) (fun w' hk => (by kernel_rfl)) HK ?_
  refine t_q (n := 44) 4 (.int .i64 n) rfl (by kernel_rfl) (by kernel_rfl) (fun _ _ _ h => h) (fun w' hk => (R_load (p := ⟨g1, 0, none⟩) (by kernel_rfl) (by kernel_rfl) (by kernel_rfl) (hk.cell (HV.cell (i := 0) (j := 0) rfl rfl)))) HK ?_
  refine t_c (n := 43) 1 (f := 21) (args := #[.pointer (some ⟨g, 0, none⟩)]) rfl (by kernel_rfl) (by kernel_rfl) (R_call #[.pointer (some ⟨g, 0, none⟩)] Tryd.func21 (by kernel_rfl) (by kernel_rfl) (by kernel_rfl)) ?_
  refine (msize g n _ (HS.old0 hz2)).mono ?_
  rintro e W4 ⟨rfl, H_⟩
  refine ⟨_, rfl, HK.tr H_.kept.nil, ?_⟩
  replace HK := HK.tr H_.kept.nil
  replace HS : St W (owns []) W4 [blk g1 [.int .i64 n, .slice Aw L.length cw, .bool false] 32] := HS.join (F := []) (G := []) H_
  clear H_
  refine t_q (n := 42) 5 (.bool true) rfl (by kernel_rfl) (by kernel_rfl) (fun _ _ _ h => h) (fun w' hk => (R_beq (b := (n == n)) (by kernel_rfl) (beq_t (by omega)))) HK ?_
  refine t_q (n := 41) 6 (.bool true) rfl (by kernel_rfl) (by kernel_rfl) (fun _ _ _ h => h) (fun w' hk => (by kernel_rfl)) HK ?_
  refine t_q (n := 40) 7 (.pointer (some ⟨g, 0, none⟩)) rfl (by kernel_rfl) (by kernel_rfl) (fun _ _ _ h => h) (fun w' hk => (by kernel_rfl)) HK ?_
  refine t_q (n := 39) 9 (.pointer (some ⟨g1, 0, none⟩)) rfl (by kernel_rfl) (by kernel_rfl) (fun _ _ _ h => h) (fun w' hk => (by kernel_rfl)) HK ?_
  refine t_q (n := 38) 10 (.pointer (some ⟨g1, 1, none⟩)) rfl (by kernel_rfl) (by kernel_rfl) (fun _ _ _ h => h) (fun w' hk => (by kernel_rfl)) HK ?_
  refine t_q (n := 37) 11 (.slice Aw L.length cw) rfl (by kernel_rfl) (by kernel_rfl) (fun _ _ _ h => h) (fun w' hk => (R_load (p := ⟨g1, 1, none⟩) (by kernel_rfl) (by kernel_rfl) (by kernel_rfl) (hk.cell (HV.cell (i := 0) (j := 1) rfl rfl)))) HK ?_
  refine t_q (n := 36) 12 (.int .i64 (L.length : Int)) rfl (by kernel_rfl) (by kernel_rfl) (fun _ _ _ h => h) (fun w' hk => (by kernel_rfl)) HK ?_
  refine t_c (n := 35) 8 (f := 13) (args := #[.pointer (some ⟨g, 0, none⟩)]) rfl (by kernel_rfl) (by kernel_rfl) (R_call #[.pointer (some ⟨g, 0, none⟩)] Tryd.func13 (by kernel_rfl) (by kernel_rfl) (by kernel_rfl)) ?_
  refine (mlen_few g q c A n L _ (HS.old0 hz0) (HS.old0 hz1) (HS.old0 hz2) (HS.old0 hq0) (hr.old0 HS) hs hl).mono ?_
  rintro e W5 ⟨rfl, H_⟩
  refine ⟨_, rfl, HK.tr H_.kept.nil, ?_⟩
  replace HK := HK.tr H_.kept.nil
  replace HS : St W (owns []) W5 [blk g1 [.int .i64 n, .slice Aw L.length cw, .bool false] 32] := HS.join (F := []) (G := []) H_
  clear H_
  refine t_q (n := 34) 13 (.bool true) rfl (by kernel_rfl) (by kernel_rfl) (fun _ _ _ h => h) (fun w' hk => (R_beq (b := ((L.length : Int) == (L.length : Int))) (by kernel_rfl) (beq_t (by omega)))) HK ?_
  refine t_q (n := 33) 14 (.bool true) rfl (by kernel_rfl) (by kernel_rfl) (fun _ _ _ h => h) (fun w' hk => (by kernel_rfl)) HK ?_
  refine t_q (n := 32) 15 (.bool true) rfl (by kernel_rfl) (by kernel_rfl) (fun _ _ _ h => h) (fun w' hk => (by kernel_rfl)) HK ?_
  refine t_q (n := 31) 16 (.pointer (some ⟨g, 0, none⟩)) rfl (by kernel_rfl) (by kernel_rfl) (fun _ _ _ h => h) (fun w' hk => (by kernel_rfl)) HK ?_
  refine t_q (n := 30) 17 (.int .i64 i) rfl (by kernel_rfl) (by kernel_rfl) (fun _ _ _ h => h) (fun w' hk => (by kernel_rfl)) HK ?_
  refine t_q (n := 29) 19 (.pointer (some ⟨g1, 0, none⟩)) rfl (by kernel_rfl) (by kernel_rfl) (fun _ _ _ h => h) (fun w' hk => (by kernel_rfl)) HK ?_
  refine t_q (n := 28) 20 (.agg #[.int .i64 n, .slice Aw L.length cw]) rfl (by kernel_rfl) (by kernel_rfl) (fun _ _ _ h => h) (fun w' hk => (R_loadN (p := ⟨g1, 0, none⟩) [.int .i64 n, .slice Aw L.length cw] (by kernel_rfl) (by kernel_rfl) (by kernel_rfl) (by kernel_rfl) (two_at (hk.cell (HV.cell (i := 0) (j := 0) rfl rfl)) (hk.cell (HV.cell (i := 0) (j := 1) rfl rfl))))) HK ?_
  refine t_q (n := 27) 21 (.int .i64 i) rfl (by kernel_rfl) (by kernel_rfl) (fun _ _ _ h => h) (fun w' hk => (by kernel_rfl)) HK ?_
  refine t_c (n := 26) 18 (f := 15) (args := #[.pointer (some ⟨g, 0, none⟩), .int .i64 i]) rfl (by kernel_rfl) (by kernel_rfl) (R_call #[.pointer (some ⟨g, 0, none⟩), .int .i64 i] Tryd.func15 (by kernel_rfl) (by kernel_rfl) (by kernel_rfl)) ?_
  refine (mhas_few g q c A n L i _ (HS.old0 hz0) (HS.old0 hz1) (HS.old0 hz2) (HS.old0 hq0) (hr.old0 HS) hs hl).mono ?_
  rintro e W6 ⟨rfl, H_⟩
  refine ⟨_, rfl, HK.tr H_.kept.nil, ?_⟩
  replace HK := HK.tr H_.kept.nil
  replace HS : St W (owns []) W6 [blk g1 [.int .i64 n, .slice Aw L.length cw, .bool false] 32] := HS.join (F := []) (G := []) H_
  clear H_
  refine t_c (n := 25) 22 (f := 29) (args := #[.agg #[.int .i64 n, .slice Aw L.length cw], .int .i64 i]) rfl (by kernel_rfl) (by kernel_rfl) (R_call #[.agg #[.int .i64 n, .slice Aw L.length cw], .int .i64 i] Tryd.func29 (by kernel_rfl) (by kernel_rfl) (by kernel_rfl)) ?_
  refine (r3has Aw cw L n i _ (hw.old0 HS) (by omega)).mono ?_
  rintro e W7 ⟨rfl, H_⟩
  refine ⟨_, rfl, HK.tr H_.kept.nil, ?_⟩
  replace HK := HK.tr H_.kept.nil
  replace HS : St W (owns []) W7 [blk g1 [.int .i64 n, .slice Aw L.length cw, .bool false] 32] := HS.join (F := []) (G := []) H_
  clear H_
  refine t_q (n := 24) 23 (.bool true) rfl (by kernel_rfl) (by kernel_rfl) (fun _ _ _ h => h) (fun w' hk => (R_beq (b := ((decide (i ∈ L)) == (decide (i ∈ L)))) (by kernel_rfl) (beq_same _))) HK ?_
  refine t_q (n := 23) 24 (.bool true) rfl (by kernel_rfl) (by kernel_rfl) (fun _ _ _ h => h) (fun w' hk => (by kernel_rfl)) HK ?_
  refine t_q (n := 22) 25 (.bool true) rfl (by kernel_rfl) (by kernel_rfl) (fun _ _ _ h => h) (fun w' hk => (by kernel_rfl)) HK ?_
  refine t_q (n := 21) 26 (.pointer (some ⟨g, 0, none⟩)) rfl (by kernel_rfl) (by kernel_rfl) (fun _ _ _ h => h) (fun w' hk => (by kernel_rfl)) HK ?_
  refine t_q (n := 20) 28 (.pointer (some ⟨g1, 2, none⟩)) rfl (by kernel_rfl) (by kernel_rfl) (fun _ _ _ h => h) (fun w' hk => (by kernel_rfl)) HK ?_
  refine t_q (n := 19) 29 (.bool false) rfl (by kernel_rfl) (by kernel_rfl) (fun _ _ _ h => h) (fun w' hk => (R_load (p := ⟨g1, 2, none⟩) (by kernel_rfl) (by kernel_rfl) (by kernel_rfl) (hk.cell (HV.cell (i := 0) (j := 2) rfl rfl)))) HK ?_
  refine t_c (n := 18) 27 (f := 23) (args := #[.pointer (some ⟨g, 0, none⟩)]) rfl (by kernel_rfl) (by kernel_rfl) (R_call #[.pointer (some ⟨g, 0, none⟩)] Tryd.func23 (by kernel_rfl) (by kernel_rfl) (by kernel_rfl)) ?_
  refine (mdense_few g q c A n L _ (HS.old0 hz0) (HS.old0 hz1) (HS.old0 hz2) (HS.old0 hq0) (hr.old0 HS) hs hl).mono ?_
  rintro e W8 ⟨rfl, H_⟩
  refine ⟨_, rfl, HK.tr H_.kept.nil, ?_⟩
  replace HK := HK.tr H_.kept.nil
  replace HS : St W (owns []) W8 [blk g1 [.int .i64 n, .slice Aw L.length cw, .bool false] 32] := HS.join (F := []) (G := []) H_
  clear H_
  refine t_q (n := 17) 30 (.bool true) rfl (by kernel_rfl) (by kernel_rfl) (fun _ _ _ h => h) (fun w' hk => (by kernel_rfl)) HK ?_
  refine t_q (n := 16) 31 (.bool true) rfl (by kernel_rfl) (by kernel_rfl) (fun _ _ _ h => h) (fun w' hk => (by kernel_rfl)) HK ?_
  refine t_q (n := 15) 32 (.bool true) rfl (by kernel_rfl) (by kernel_rfl) (fun _ _ _ h => h) (fun w' hk => (by kernel_rfl)) HK ?_
  refine t_q (n := 14) 33 (.pointer (some ⟨g, 0, none⟩)) rfl (by kernel_rfl) (by kernel_rfl) (fun _ _ _ h => h) (fun w' hk => (by kernel_rfl)) HK ?_
  refine t_q (n := 13) 35 (.agg #[.int .i64 n, .slice Aw L.length cw, .bool false]) rfl (by kernel_rfl) (by kernel_rfl) (fun _ _ _ h => h) (fun w' hk => (R_loadN (p := ⟨g1, 0, none⟩) [.int .i64 n, .slice Aw L.length cw, .bool false] (by kernel_rfl) (by kernel_rfl) (by kernel_rfl) (by kernel_rfl) (three_at (hk.cell (HV.cell (i := 0) (j := 0) rfl rfl)) (hk.cell (HV.cell (i := 0) (j := 1) rfl rfl)) (hk.cell (HV.cell (i := 0) (j := 2) rfl rfl))))) HK ?_
  refine t_c (n := 12) 34 (f := 24) (args := #[.pointer (some ⟨g, 0, none⟩)]) rfl (by kernel_rfl) (by kernel_rfl) (R_call #[.pointer (some ⟨g, 0, none⟩)] Tryd.func24 (by kernel_rfl) (by kernel_rfl) (by kernel_rfl)) ?_
  refine (mwords_few g q c A n L _ (HS.old0 hz0) (HS.old0 hz1) (HS.old0 hz2) (HS.old0 hq0) (hr.old0 HS) hs hl).mono ?_
  rintro e W9 ⟨rfl, H_⟩
  refine ⟨_, rfl, HK.tr H_.kept.nil, ?_⟩
  replace HK := HK.tr H_.kept.nil
  replace HS : St W (owns []) W9 [blk g1 [.int .i64 n, .slice Aw L.length cw, .bool false] 32] := HS.join (F := []) (G := []) H_
  clear H_
  refine t_c (n := 11) 36 (f := 30) (args := #[.agg #[.int .i64 n, .slice Aw L.length cw, .bool false]]) rfl (by kernel_rfl) (by kernel_rfl) (R_call #[.agg #[.int .i64 n, .slice Aw L.length cw, .bool false]] Tryd.func30 (by kernel_rfl) (by kernel_rfl) (by kernel_rfl)) ?_
  refine (r5words_false Aw cw L n _ h0 hn (by omega)).mono ?_
  rintro e W10 ⟨rfl, H_⟩
  refine ⟨_, rfl, HK.tr H_.kept.nil, ?_⟩
  replace HK := HK.tr H_.kept.nil
  replace HS : St W (owns []) W10 [blk g1 [.int .i64 n, .slice Aw L.length cw, .bool false] 32] := HS.join (F := []) (G := []) H_
  clear H_
  refine t_q (n := 10) 37 (.bool true) rfl (by kernel_rfl) (by kernel_rfl) (fun _ _ _ h => h) (fun w' hk => (R_beq (b := ((L.length : Int) == (L.length : Int))) (by kernel_rfl) (beq_t (by omega)))) HK ?_
  refine t_q (n := 9) 38 (.bool true) rfl (by kernel_rfl) (by kernel_rfl) (fun _ _ _ h => h) (fun w' hk => (by kernel_rfl)) HK ?_
  refine t_q (n := 8) 39 (.bool true) rfl (by kernel_rfl) (by kernel_rfl) (fun _ _ _ h => h) (fun w' hk => (by kernel_rfl)) HK ?_
  refine t_q (n := 7) 40 (.pointer (some ⟨g, 0, none⟩)) rfl (by kernel_rfl) (by kernel_rfl) (fun _ _ _ h => h) (fun w' hk => (by kernel_rfl)) HK ?_
  refine t_q (n := 6) 42 (.pointer (some ⟨g1, 0, none⟩)) rfl (by kernel_rfl) (by kernel_rfl) (fun _ _ _ h => h) (fun w' hk => (by kernel_rfl)) HK ?_
  refine t_q (n := 5) 43 (.pointer (some ⟨g1, 1, none⟩)) rfl (by kernel_rfl) (by kernel_rfl) (fun _ _ _ h => h) (fun w' hk => (by kernel_rfl)) HK ?_
  refine t_q (n := 4) 44 (.slice Aw L.length cw) rfl (by kernel_rfl) (by kernel_rfl) (fun _ _ _ h => h) (fun w' hk => (R_load (p := ⟨g1, 1, none⟩) (by kernel_rfl) (by kernel_rfl) (by kernel_rfl) (hk.cell (HV.cell (i := 0) (j := 1) rfl rfl)))) HK ?_
  refine t_c (n := 3) 41 (f := 19) (args := #[.pointer (some ⟨g, 0, none⟩)]) rfl (by kernel_rfl) (by kernel_rfl) (R_call #[.pointer (some ⟨g, 0, none⟩)] Tryd.func19 (by kernel_rfl) (by kernel_rfl) (by kernel_rfl)) ?_
  refine (mlist_few g q c A n L _ (HS.old0 hz0) (HS.old0 hz1) (HS.old0 hz2) (HS.old0 hq0) (hr.old0 HS) hs hl (hT.old0 HS)).mono ?_
  rintro e W13 ⟨A11, c12, rfl, H_⟩
  refine ⟨_, rfl, HK.tr H_.kept.nil, ?_⟩
  replace HK := HK.tr H_.kept.nil
  replace HS : St W (owns []) W13 [row A11 L.length c12 (ci .i64 L) 3 1, blk g1 [.int .i64 n, .slice Aw L.length cw, .bool false] 32] := HS.join (F := []) (G := [row A11 L.length c12 (ci .i64 L) 3 1]) H_
  clear H_
  refine t_c (n := 2) 45 (f := 18) (args := #[.slice A11 L.length c12, .slice Aw L.length cw]) rfl (by kernel_rfl) (by kernel_rfl) (R_call #[.slice A11 L.length c12, .slice Aw L.length cw] Tryd.func18 (by kernel_rfl) (by kernel_rfl) (by kernel_rfl)) ?_
  refine (r1same A11 Aw _ _ L L _ (Rd.row HS (i := 0) rfl) (by omega) (hw.old0 HS) (by omega)).mono ?_
  rintro e W14 ⟨rfl, H_⟩
  rw [decide_eq_true (rfl : L = L)]
  refine ⟨_, rfl, HK.tr H_.kept.nil, ?_⟩
  replace HK := HK.tr H_.kept.nil
  replace HS : St W (owns []) W14 [row A11 L.length c12 (ci .i64 L) 3 1, blk g1 [.int .i64 n, .slice Aw L.length cw, .bool false] 32] := HS.join (F := []) (G := []) H_
  clear H_
  refine t_q (n := 1) 46 (.bool true) rfl (by kernel_rfl) (by kernel_rfl) (fun _ _ _ h => h) (fun w' hk => (by kernel_rfl)) HK ?_
  refine t_q (n := 0) 47 (.bool true) rfl (by kernel_rfl) (by kernel_rfl) (fun _ _ _ h => h) (fun w' hk => (by kernel_rfl)) HK ?_
  refine t_done (by kernel_rfl) ?_
  clear HV HK
  refine x_then ?_
  refine wp_ret ?_
  refine ret_ (.bool true) (by kernel_rfl) ?_
  replace HS := HS.drop1
  replace HS := HS.drop1
  exact ⟨rfl, HS⟩

set_option maxRecDepth 100000 in
set_option maxHeartbeats 1000000 in
theorem mtells_mny (g d c : Nat) (A : Option Addr) (ws : List Int) (n : Int) (L : List Int) (Aw : Option Addr) (cw : Nat) (i : Int) (W : World) (hz0 : W.cell? ⟨g, 0, none⟩ = some (.pointer none)) (hz1 : W.cell? ⟨g, 1, none⟩ = some (.pointer (some ⟨d, 0, none⟩))) (hz2 : W.cell? ⟨g, 2, none⟩ = some (.int .i64 n)) (hd0 : W.cell? ⟨d, 0, none⟩ = some (.slice A ws.length c)) (hd1 : W.cell? ⟨d, 1, none⟩ = some (.int .i64 n)) (hr : Rd W A (ci .u64 ws)) (hR : Rep ws n L) (hn : n ≤ 1048576) (h0 : 0 ≤ n) (hT : TabAt64 W) (hw : Rd W Aw (ci .i64 L)) (hll : L.length ≤ 50000) : Calls Tryd.prog 9 #[.pointer (some ⟨g, 0, none⟩), .agg #[.int .i64 n, .slice Aw L.length cw, .bool true], .int .i64 i] W fun e W' => e = .returned (.bool true) ∧ St W (owns []) W' [] := by
  have HS : St W (owns []) W [] := St.start W _
  refine calls_enter ((.pointer (some ⟨g, 0, none⟩)) :: (.agg #[.int .i64 n, .slice Aw L.length cw, .bool true]) :: (.int .i64 i) :: undef :: undef :: undef :: undef :: undef :: undef :: undef :: undef :: undef :: undef :: undef :: undef :: undef :: undef :: undef :: undef :: undef :: undef :: undef :: undef :: undef :: undef :: undef :: undef :: undef :: undef :: undef :: undef :: undef :: undef :: undef :: undef :: undef :: undef :: undef :: undef :: undef :: undef :: undef :: undef :: undef :: undef :: undef :: undef :: undef :: undef :: undef :: undef :: undef :: undef :: undef :: []) Tryd.func9 rfl (by kernel_rfl) ?_
  refine wp_seq ?_
  refine wp_region_lit ?_
  refine kb HS [.int .i64 n, .slice Aw L.length cw, .bool true] 32 (fun g => .pointer (some ⟨g, 0, none⟩)) (by kernel_rfl) (by kernel_rfl) ?_
  intro g1 W2 H_
  replace HS : St W (owns []) W2 [blk g1 [.int .i64 n, .slice Aw L.length cw, .bool true] 32] := H_
  clear H_
  refine ql (.bool false) (by kernel_rfl) (by kernel_rfl) ?_
  refine wpList_nil ?_
  refine x_then ?_
  refine wp_seq ?_
  refine t_start HS (fun _ => False) 48 (by kernel_rfl) rfl ?_
  intro W3 H_ HD_
  clear HD_
  replace HS : St W (owns []) W3 [blk g1 [.int .i64 n, .slice Aw L.length cw, .bool true] 32] := H_
  clear H_
  have HV := HS
  have HK := Kpt.refl (fun _ => False) W3
  refine t_q (n := 47) 0 (.pointer (some ⟨g, 0, none⟩)) rfl (by kernel_rfl) (by kernel_rfl) (fun _ _ _ h => h) (fun w' hk => (by kernel_rfl)) HK ?_
  refine t_q (n := 46) 2 (.pointer (some ⟨g1, 0, none⟩)) rfl (by kernel_rfl) (by kernel_rfl) (fun _ _ _ h => h) (fun w' hk => (by kernel_rfl)) HK ?_
  refine t_q (n := 45) 3 (.pointer (some ⟨g1, 0, none⟩)) rfl (by kernel_rfl) (by kernel_rfl) (fun _ _ _ h => h) (fun w' hk => (by kernel_rfl)) HK ?_
  refine t_q (n := 44) 4 (.int .i64 n) rfl (by kernel_rfl) (by kernel_rfl) (fun _ _ _ h => h) (fun w' hk => (R_load (p := ⟨g1, 0, none⟩) (by kernel_rfl) (by kernel_rfl) (by kernel_rfl) (hk.cell (HV.cell (i := 0) (j := 0) rfl rfl)))) HK ?_
  refine t_c (n := 43) 1 (f := 21) (args := #[.pointer (some ⟨g, 0, none⟩)]) rfl (by kernel_rfl) (by kernel_rfl) (R_call #[.pointer (some ⟨g, 0, none⟩)] Tryd.func21 (by kernel_rfl) (by kernel_rfl) (by kernel_rfl)) ?_
  refine (msize g n _ (HS.old0 hz2)).mono ?_
  rintro e W4 ⟨rfl, H_⟩
  refine ⟨_, rfl, HK.tr H_.kept.nil, ?_⟩
  replace HK := HK.tr H_.kept.nil
  replace HS : St W (owns []) W4 [blk g1 [.int .i64 n, .slice Aw L.length cw, .bool true] 32] := HS.join (F := []) (G := []) H_
  clear H_
  refine t_q (n := 42) 5 (.bool true) rfl (by kernel_rfl) (by kernel_rfl) (fun _ _ _ h => h) (fun w' hk => (R_beq (b := (n == n)) (by kernel_rfl) (beq_t (by omega)))) HK ?_
  refine t_q (n := 41) 6 (.bool true) rfl (by kernel_rfl) (by kernel_rfl) (fun _ _ _ h => h) (fun w' hk => (by kernel_rfl)) HK ?_
  refine t_q (n := 40) 7 (.pointer (some ⟨g, 0, none⟩)) rfl (by kernel_rfl) (by kernel_rfl) (fun _ _ _ h => h) (fun w' hk => (by kernel_rfl)) HK ?_
  refine t_q (n := 39) 9 (.pointer (some ⟨g1, 0, none⟩)) rfl (by kernel_rfl) (by kernel_rfl) (fun _ _ _ h => h) (fun w' hk => (by kernel_rfl)) HK ?_
  refine t_q (n := 38) 10 (.pointer (some ⟨g1, 1, none⟩)) rfl (by kernel_rfl) (by kernel_rfl) (fun _ _ _ h => h) (fun w' hk => (by kernel_rfl)) HK ?_
  refine t_q (n := 37) 11 (.slice Aw L.length cw) rfl (by kernel_rfl) (by kernel_rfl) (fun _ _ _ h => h) (fun w' hk => (R_load (p := ⟨g1, 1, none⟩) (by kernel_rfl) (by kernel_rfl) (by kernel_rfl) (hk.cell (HV.cell (i := 0) (j := 1) rfl rfl)))) HK ?_
  refine t_q (n := 36) 12 (.int .i64 (L.length : Int)) rfl (by kernel_rfl) (by kernel_rfl) (fun _ _ _ h => h) (fun w' hk => (by kernel_rfl)) HK ?_
  refine t_c (n := 35) 8 (f := 13) (args := #[.pointer (some ⟨g, 0, none⟩)]) rfl (by kernel_rfl) (by kernel_rfl) (R_call #[.pointer (some ⟨g, 0, none⟩)] Tryd.func13 (by kernel_rfl) (by kernel_rfl) (by kernel_rfl)) ?_
  refine (mlen_mny g d c A ws n L _ (HS.old0 hz0) (HS.old0 hz1) (HS.old0 hz2) (HS.old0 hd0) (HS.old0 hd1) (hr.old0 HS) hR hn h0).mono ?_
  rintro e W5 ⟨rfl, H_⟩
  refine ⟨_, rfl, HK.tr H_.kept.nil, ?_⟩
  replace HK := HK.tr H_.kept.nil
  replace HS : St W (owns []) W5 [blk g1 [.int .i64 n, .slice Aw L.length cw, .bool true] 32] := HS.join (F := []) (G := []) H_
  clear H_
  refine t_q (n := 34) 13 (.bool true) rfl (by kernel_rfl) (by kernel_rfl) (fun _ _ _ h => h) (fun w' hk => (R_beq (b := ((L.length : Int) == (L.length : Int))) (by kernel_rfl) (beq_t (by omega)))) HK ?_
  refine t_q (n := 33) 14 (.bool true) rfl (by kernel_rfl) (by kernel_rfl) (fun _ _ _ h => h) (fun w' hk => (by kernel_rfl)) HK ?_
  refine t_q (n := 32) 15 (.bool true) rfl (by kernel_rfl) (by kernel_rfl) (fun _ _ _ h => h) (fun w' hk => (by kernel_rfl)) HK ?_
  refine t_q (n := 31) 16 (.pointer (some ⟨g, 0, none⟩)) rfl (by kernel_rfl) (by kernel_rfl) (fun _ _ _ h => h) (fun w' hk => (by kernel_rfl)) HK ?_
  refine t_q (n := 30) 17 (.int .i64 i) rfl (by kernel_rfl) (by kernel_rfl) (fun _ _ _ h => h) (fun w' hk => (by kernel_rfl)) HK ?_
  refine t_q (n := 29) 19 (.pointer (some ⟨g1, 0, none⟩)) rfl (by kernel_rfl) (by kernel_rfl) (fun _ _ _ h => h) (fun w' hk => (by kernel_rfl)) HK ?_
  refine t_q (n := 28) 20 (.agg #[.int .i64 n, .slice Aw L.length cw]) rfl (by kernel_rfl) (by kernel_rfl) (fun _ _ _ h => h) (fun w' hk => (R_loadN (p := ⟨g1, 0, none⟩) [.int .i64 n, .slice Aw L.length cw] (by kernel_rfl) (by kernel_rfl) (by kernel_rfl) (by kernel_rfl) (two_at (hk.cell (HV.cell (i := 0) (j := 0) rfl rfl)) (hk.cell (HV.cell (i := 0) (j := 1) rfl rfl))))) HK ?_
  refine t_q (n := 27) 21 (.int .i64 i) rfl (by kernel_rfl) (by kernel_rfl) (fun _ _ _ h => h) (fun w' hk => (by kernel_rfl)) HK ?_
  refine t_c (n := 26) 18 (f := 15) (args := #[.pointer (some ⟨g, 0, none⟩), .int .i64 i]) rfl (by kernel_rfl) (by kernel_rfl) (R_call #[.pointer (some ⟨g, 0, none⟩), .int .i64 i] Tryd.func15 (by kernel_rfl) (by kernel_rfl) (by kernel_rfl)) ?_
  refine (mhas_mny g d c A ws n L i _ (HS.old0 hz0) (HS.old0 hz1) (HS.old0 hz2) (HS.old0 hd0) (HS.old0 hd1) (hr.old0 HS) hR hn h0).mono ?_
  rintro e W6 ⟨rfl, H_⟩
  refine ⟨_, rfl, HK.tr H_.kept.nil, ?_⟩
  replace HK := HK.tr H_.kept.nil
  replace HS : St W (owns []) W6 [blk g1 [.int .i64 n, .slice Aw L.length cw, .bool true] 32] := HS.join (F := []) (G := []) H_
  clear H_
  refine t_c (n := 25) 22 (f := 29) (args := #[.agg #[.int .i64 n, .slice Aw L.length cw], .int .i64 i]) rfl (by kernel_rfl) (by kernel_rfl) (R_call #[.agg #[.int .i64 n, .slice Aw L.length cw], .int .i64 i] Tryd.func29 (by kernel_rfl) (by kernel_rfl) (by kernel_rfl)) ?_
  refine (r3has Aw cw L n i _ (hw.old0 HS) (by omega)).mono ?_
  rintro e W7 ⟨rfl, H_⟩
  refine ⟨_, rfl, HK.tr H_.kept.nil, ?_⟩
  replace HK := HK.tr H_.kept.nil
  replace HS : St W (owns []) W7 [blk g1 [.int .i64 n, .slice Aw L.length cw, .bool true] 32] := HS.join (F := []) (G := []) H_
  clear H_
  refine t_q (n := 24) 23 (.bool true) rfl (by kernel_rfl) (by kernel_rfl) (fun _ _ _ h => h) (fun w' hk => (R_beq (b := ((decide (i ∈ L)) == (decide (i ∈ L)))) (by kernel_rfl) (beq_same _))) HK ?_
  refine t_q (n := 23) 24 (.bool true) rfl (by kernel_rfl) (by kernel_rfl) (fun _ _ _ h => h) (fun w' hk => (by kernel_rfl)) HK ?_
  refine t_q (n := 22) 25 (.bool true) rfl (by kernel_rfl) (by kernel_rfl) (fun _ _ _ h => h) (fun w' hk => (by kernel_rfl)) HK ?_
  refine t_q (n := 21) 26 (.pointer (some ⟨g, 0, none⟩)) rfl (by kernel_rfl) (by kernel_rfl) (fun _ _ _ h => h) (fun w' hk => (by kernel_rfl)) HK ?_
  refine t_q (n := 20) 28 (.pointer (some ⟨g1, 2, none⟩)) rfl (by kernel_rfl) (by kernel_rfl) (fun _ _ _ h => h) (fun w' hk => (by kernel_rfl)) HK ?_
  refine t_q (n := 19) 29 (.bool true) rfl (by kernel_rfl) (by kernel_rfl) (fun _ _ _ h => h) (fun w' hk => (R_load (p := ⟨g1, 2, none⟩) (by kernel_rfl) (by kernel_rfl) (by kernel_rfl) (hk.cell (HV.cell (i := 0) (j := 2) rfl rfl)))) HK ?_
  refine t_c (n := 18) 27 (f := 23) (args := #[.pointer (some ⟨g, 0, none⟩)]) rfl (by kernel_rfl) (by kernel_rfl) (R_call #[.pointer (some ⟨g, 0, none⟩)] Tryd.func23 (by kernel_rfl) (by kernel_rfl) (by kernel_rfl)) ?_
  refine (mdense_mny g d c A ws n L _ (HS.old0 hz0) (HS.old0 hz1) (HS.old0 hz2) (HS.old0 hd0) (HS.old0 hd1) (hr.old0 HS) hR hn h0).mono ?_
  rintro e W8 ⟨rfl, H_⟩
  refine ⟨_, rfl, HK.tr H_.kept.nil, ?_⟩
  replace HK := HK.tr H_.kept.nil
  replace HS : St W (owns []) W8 [blk g1 [.int .i64 n, .slice Aw L.length cw, .bool true] 32] := HS.join (F := []) (G := []) H_
  clear H_
  refine t_q (n := 17) 30 (.bool true) rfl (by kernel_rfl) (by kernel_rfl) (fun _ _ _ h => h) (fun w' hk => (by kernel_rfl)) HK ?_
  refine t_q (n := 16) 31 (.bool true) rfl (by kernel_rfl) (by kernel_rfl) (fun _ _ _ h => h) (fun w' hk => (by kernel_rfl)) HK ?_
  refine t_q (n := 15) 32 (.bool true) rfl (by kernel_rfl) (by kernel_rfl) (fun _ _ _ h => h) (fun w' hk => (by kernel_rfl)) HK ?_
  refine t_q (n := 14) 33 (.pointer (some ⟨g, 0, none⟩)) rfl (by kernel_rfl) (by kernel_rfl) (fun _ _ _ h => h) (fun w' hk => (by kernel_rfl)) HK ?_
  refine t_q (n := 13) 35 (.agg #[.int .i64 n, .slice Aw L.length cw, .bool true]) rfl (by kernel_rfl) (by kernel_rfl) (fun _ _ _ h => h) (fun w' hk => (R_loadN (p := ⟨g1, 0, none⟩) [.int .i64 n, .slice Aw L.length cw, .bool true] (by kernel_rfl) (by kernel_rfl) (by kernel_rfl) (by kernel_rfl) (three_at (hk.cell (HV.cell (i := 0) (j := 0) rfl rfl)) (hk.cell (HV.cell (i := 0) (j := 1) rfl rfl)) (hk.cell (HV.cell (i := 0) (j := 2) rfl rfl))))) HK ?_
  refine t_c (n := 12) 34 (f := 24) (args := #[.pointer (some ⟨g, 0, none⟩)]) rfl (by kernel_rfl) (by kernel_rfl) (R_call #[.pointer (some ⟨g, 0, none⟩)] Tryd.func24 (by kernel_rfl) (by kernel_rfl) (by kernel_rfl)) ?_
  refine (mwords_mny g d c A ws n L _ (HS.old0 hz0) (HS.old0 hz1) (HS.old0 hz2) (HS.old0 hd0) (HS.old0 hd1) (hr.old0 HS) hR hn h0).mono ?_
  rintro e W9 ⟨rfl, H_⟩
  refine ⟨_, rfl, HK.tr H_.kept.nil, ?_⟩
  replace HK := HK.tr H_.kept.nil
  replace HS : St W (owns []) W9 [blk g1 [.int .i64 n, .slice Aw L.length cw, .bool true] 32] := HS.join (F := []) (G := []) H_
  clear H_
  refine t_c (n := 11) 36 (f := 30) (args := #[.agg #[.int .i64 n, .slice Aw L.length cw, .bool true]]) rfl (by kernel_rfl) (by kernel_rfl) (R_call #[.agg #[.int .i64 n, .slice Aw L.length cw, .bool true]] Tryd.func30 (by kernel_rfl) (by kernel_rfl) (by kernel_rfl)) ?_
  refine (r5words_true Aw cw L n _ h0 hn (by omega)).mono ?_
  rintro e W10 ⟨rfl, H_⟩
  refine ⟨_, rfl, HK.tr H_.kept.nil, ?_⟩
  replace HK := HK.tr H_.kept.nil
  replace HS : St W (owns []) W10 [blk g1 [.int .i64 n, .slice Aw L.length cw, .bool true] 32] := HS.join (F := []) (G := []) H_
  clear H_
  refine t_q (n := 10) 37 (.bool true) rfl (by kernel_rfl) (by kernel_rfl) (fun _ _ _ h => h) (fun w' hk => (R_beq (b := (((n + 63) / 64) == ((n + 63) / 64))) (by kernel_rfl) (beq_t (by omega)))) HK ?_
  refine t_q (n := 9) 38 (.bool true) rfl (by kernel_rfl) (by kernel_rfl) (fun _ _ _ h => h) (fun w' hk => (by kernel_rfl)) HK ?_
  refine t_q (n := 8) 39 (.bool true) rfl (by kernel_rfl) (by kernel_rfl) (fun _ _ _ h => h) (fun w' hk => (by kernel_rfl)) HK ?_
  refine t_q (n := 7) 40 (.pointer (some ⟨g, 0, none⟩)) rfl (by kernel_rfl) (by kernel_rfl) (fun _ _ _ h => h) (fun w' hk => (by kernel_rfl)) HK ?_
  refine t_q (n := 6) 42 (.pointer (some ⟨g1, 0, none⟩)) rfl (by kernel_rfl) (by kernel_rfl) (fun _ _ _ h => h) (fun w' hk => (by kernel_rfl)) HK ?_
  refine t_q (n := 5) 43 (.pointer (some ⟨g1, 1, none⟩)) rfl (by kernel_rfl) (by kernel_rfl) (fun _ _ _ h => h) (fun w' hk => (by kernel_rfl)) HK ?_
  refine t_q (n := 4) 44 (.slice Aw L.length cw) rfl (by kernel_rfl) (by kernel_rfl) (fun _ _ _ h => h) (fun w' hk => (R_load (p := ⟨g1, 1, none⟩) (by kernel_rfl) (by kernel_rfl) (by kernel_rfl) (hk.cell (HV.cell (i := 0) (j := 1) rfl rfl)))) HK ?_
  refine t_c (n := 3) 41 (f := 19) (args := #[.pointer (some ⟨g, 0, none⟩)]) rfl (by kernel_rfl) (by kernel_rfl) (R_call #[.pointer (some ⟨g, 0, none⟩)] Tryd.func19 (by kernel_rfl) (by kernel_rfl) (by kernel_rfl)) ?_
  refine (mlist_mny g d c A ws n L _ (HS.old0 hz0) (HS.old0 hz1) (HS.old0 hz2) (HS.old0 hd0) (HS.old0 hd1) (hr.old0 HS) hR hn h0 (hT.old0 HS)).mono ?_
  rintro e W13 ⟨A11, c12, rfl, H_⟩
  refine ⟨_, rfl, HK.tr H_.kept.nil, ?_⟩
  replace HK := HK.tr H_.kept.nil
  replace HS : St W (owns []) W13 [row A11 L.length c12 (ci .i64 L) 3 1, blk g1 [.int .i64 n, .slice Aw L.length cw, .bool true] 32] := HS.join (F := []) (G := [row A11 L.length c12 (ci .i64 L) 3 1]) H_
  clear H_
  refine t_c (n := 2) 45 (f := 18) (args := #[.slice A11 L.length c12, .slice Aw L.length cw]) rfl (by kernel_rfl) (by kernel_rfl) (R_call #[.slice A11 L.length c12, .slice Aw L.length cw] Tryd.func18 (by kernel_rfl) (by kernel_rfl) (by kernel_rfl)) ?_
  refine (r1same A11 Aw _ _ L L _ (Rd.row HS (i := 0) rfl) (by omega) (hw.old0 HS) (by omega)).mono ?_
  rintro e W14 ⟨rfl, H_⟩
  rw [decide_eq_true (rfl : L = L)]
  refine ⟨_, rfl, HK.tr H_.kept.nil, ?_⟩
  replace HK := HK.tr H_.kept.nil
  replace HS : St W (owns []) W14 [row A11 L.length c12 (ci .i64 L) 3 1, blk g1 [.int .i64 n, .slice Aw L.length cw, .bool true] 32] := HS.join (F := []) (G := []) H_
  clear H_
  refine t_q (n := 1) 46 (.bool true) rfl (by kernel_rfl) (by kernel_rfl) (fun _ _ _ h => h) (fun w' hk => (by kernel_rfl)) HK ?_
  refine t_q (n := 0) 47 (.bool true) rfl (by kernel_rfl) (by kernel_rfl) (fun _ _ _ h => h) (fun w' hk => (by kernel_rfl)) HK ?_
  refine t_done (by kernel_rfl) ?_
  clear HV HK
  refine x_then ?_
  refine wp_ret ?_
  refine ret_ (.bool true) (by kernel_rfl) ?_
  replace HS := HS.drop1
  replace HS := HS.drop1
  exact ⟨rfl, HS⟩

theorem mtells (g : Nat) (n : Int) (L : List Int) (x : MxF) (Aw : Option Addr) (cw : Nat) (i : Int) (W : World) (hP : (many (mxE 53 74 21 62 63 g n L x)).P W) (hx : x.ok n L) (h0 : 0 ≤ n) (hn : n ≤ 1048576) (hT : TabAt64 W) (hw : Rd W Aw (ci .i64 L)) (hll : L.length ≤ 50000) : Calls Tryd.prog 9 #[.pointer (some ⟨g, 0, none⟩), .agg #[.int .i64 n, .slice Aw L.length cw, .bool x.b], .int .i64 i] W fun e W' => e = .returned (.bool true) ∧ St W (owns []) W' [] := by
  rcases x with ⟨q, c, A⟩ | ⟨d, c, A, ws⟩
  · obtain ⟨a, b, c1, d, e⟩ := few_P hP
    exact mtells_few g q c A n L Aw cw i W a b c1 d e hx.1 (by have := hx.2.2; omega) hn h0 hT hw hll
  · obtain ⟨a, b, c1, d1, d2, e⟩ := mny_P hP
    exact mtells_mny g d c A ws n L Aw cw i W a b c1 d1 d2 e hx.1 hn h0 hT hw hll

theorem mtells2 (g : Nat) (n : Int) (L : List Int) (x : MxF) (b : Bool) (Aw : Option Addr) (cw : Nat) (i : Int) (W : World) (hP : (many (mxE 53 74 21 62 63 g n L x)).P W) (hx : x.ok n L) (h0 : 0 ≤ n) (hn : n ≤ 1048576) (hT : TabAt64 W) (hw : Rd W Aw (ci .i64 L)) (hll : L.length ≤ 50000) (hb : x.b = b) : Calls Tryd.prog 9 #[.pointer (some ⟨g, 0, none⟩), .agg #[.int .i64 n, .slice Aw L.length cw, .bool b], .int .i64 i] W fun e W' => e = .returned (.bool true) ∧ St W (owns []) W' [] := by
  subst hb
  exact mtells g n L x Aw cw i W hP hx h0 hn hT hw hll

end Go.Proofs.YtdiodmdohkjafaaDoor
