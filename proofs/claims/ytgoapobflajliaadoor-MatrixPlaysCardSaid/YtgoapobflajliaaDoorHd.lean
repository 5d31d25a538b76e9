/- A matrix of any shape, under any acts, has the members that the document says. This text: the walks through the functions that the statement reaches. No condition but those in the statement. -/
import Derived.WalkKit
import Derived.StillTailTactics
import Derived.Deep.LoopGhost
import Derived.KernelRfl
import Derived.Deep.OwnRows
import Derived.Laws.OwnMore
import Derived.Laws.MakeOwn
import Derived.Maps.AppendAt
import Derived.OrdersHeld
import Derived.Test.YtgoapobflajliaaDoorProg
import Derived.Test.YtgoapobflajliaaDoorHa
import Derived.Test.YtgoapobflajliaaDoorHb
import Derived.Test.YtgoapobflajliaaDoorHc
namespace Go.Proofs.YtgoapobflajliaaDoor
open Go Go.RowKit Go.Shelf Go.Proofs.YtgoapobflajliaaDoor.Hp
attribute [local irreducible] wpStill wpList Code.wp TA
set_option linter.unusedVariables false
set_option linter.unusedSimpArgs false

set_option maxRecDepth 100000 in
set_option maxHeartbeats 1000000 in
theorem c6does (g cr : Nat) (R : Option Addr) (cols : Int) (rs : List Rw) (Ls : List (List Int)) (A : Option Addr) (c : Nat) (cs : List (Int × Int)) (rows kd r q : Int) (W : World) (M : Nat → Prop) (HS : St W M W [blk g [.slice R rs.length cr, .int .i64 cols] 87, row R rs.length cr (cf cpt rs) 32 1, many (rsE 77 74 cols rs), row A cs.length c (cf actD cs) 58 2]) (hR : MRep rs cols Ls) (hMC : MC cs Ls) (hrs : (rs.length : Int) = rows) (h0 : 0 ≤ cols) (h1 : cols ≤ 200) (h3 : rows ≤ 200) : Calls Tryd.prog 25 #[.pointer (some ⟨g, 0, none⟩), .agg #[.int .i64 rows, .int .i64 cols, .slice A cs.length c], .agg #[.int .i64 kd, .int .i64 r, .int .i64 q]] W fun e W' => ∃ rs' A' c' cs' Ls', e = .returned (.tuple #[.agg #[.int .i64 rows, .int .i64 cols, .slice A' cs'.length c'], .bool true]) ∧ St W M W' [blk g [.slice R rs'.length cr, .int .i64 cols] 87, row R rs'.length cr (cf cpt rs') 32 1, many (rsE 77 74 cols rs'), row A' cs'.length c' (cf actD cs') 58 2] ∧ MRep rs' cols Ls' ∧ MC cs' Ls' ∧ rs'.length = rs.length := by
  have hlen := hR.len
  have hSo := hR.srt_
  have hcs := hMC.cnt
  have hcb := cnt_srt hSo h0
  have hmul : cols.toNat * Ls.length ≤ 40000 := Nat.mul_le_mul (by omega : cols.toNat ≤ 200) (by omega : Ls.length ≤ 200)
  refine calls_enter ((.pointer (some ⟨g, 0, none⟩)) :: (.agg #[.int .i64 rows, .int .i64 cols, .slice A cs.length c]) :: (.agg #[.int .i64 kd, .int .i64 r, .int .i64 q]) :: undef :: undef :: undef :: undef :: undef :: undef :: undef :: undef :: undef :: undef :: undef :: undef :: undef :: undef :: undef :: undef :: undef :: undef :: undef :: undef :: undef :: undef :: undef :: undef :: undef :: undef :: undef :: undef :: undef :: undef :: undef :: undef :: undef :: undef :: undef :: undef :: undef :: undef :: undef :: undef :: undef :: undef :: undef :: undef :: undef :: undef :: undef :: undef :: undef :: undef :: undef :: undef :: undef :: undef :: undef :: undef :: undef :: undef :: undef :: undef :: undef :: undef :: undef :: undef :: undef :: undef :: []) Tryd.func25 rfl (by kernel_rfl) ?_
  refine wp_seq ?_
  refine wp_region_lit ?_
  refine kb HS [.int .i64 rows, .int .i64 cols, .slice A cs.length c] 46 (fun g => .pointer (some ⟨g, 0, none⟩)) (by kernel_rfl) (by kernel_rfl) ?_
  intro g1 W2 H_
  replace HS : St W M W2 [blk g1 [.int .i64 rows, .int .i64 cols, .slice A cs.length c] 46, blk g [.slice R rs.length cr, .int .i64 cols] 87, row R rs.length cr (cf cpt rs) 32 1, many (rsE 77 74 cols rs), row A cs.length c (cf actD cs) 58 2] := H_
  clear H_
  refine kb HS [.int .i64 kd, .int .i64 r, .int .i64 q] 50 (fun g => .pointer (some ⟨g, 0, none⟩)) (by kernel_rfl) (by kernel_rfl) ?_
  intro g3 W4 H_
  replace HS : St W M W4 [blk g3 [.int .i64 kd, .int .i64 r, .int .i64 q] 50, blk g1 [.int .i64 rows, .int .i64 cols, .slice A cs.length c] 46, blk g [.slice R rs.length cr, .int .i64 cols] 87, row R rs.length cr (cf cpt rs) 32 1, many (rsE 77 74 cols rs), row A cs.length c (cf actD cs) 58 2] := H_
  clear H_
  refine kb HS [.int .i64 0, .int .i64 0, .slice none 0 0] 46 (fun g => .pointer (some ⟨g, 0, none⟩)) (by kernel_rfl) (by kernel_rfl) ?_
  intro g5 W6 H_
  replace HS : St W M W6 [blk g5 [.int .i64 0, .int .i64 0, .slice none 0 0] 46, blk g3 [.int .i64 kd, .int .i64 r, .int .i64 q] 50, blk g1 [.int .i64 rows, .int .i64 cols, .slice A cs.length c] 46, blk g [.slice R rs.length cr, .int .i64 cols] 87, row R rs.length cr (cf cpt rs) 32 1, many (rsE 77 74 cols rs), row A cs.length c (cf actD cs) 58 2] := H_
  clear H_
  refine ql (.bool false) (by kernel_rfl) (by kernel_rfl) ?_
  refine wpList_nil ?_
  refine x_then ?_
  refine wp_seq ?_
  refine wp_seq ?_
  refine wp_region_lit ?_
  refine ql (.pointer (some ⟨g3, 0, none⟩)) (by kernel_rfl) (by kernel_rfl) ?_
  refine ql (.int .i64 kd) (by kernel_rfl) (R_load (p := ⟨g3, 0, none⟩) (by kernel_rfl) (by kernel_rfl) (by kernel_rfl) (HS.cell (i := 1) (j := 0) rfl rfl)) ?_
  refine wpList_nil ?_
  refine x_then ?_
  refine wp_block ?_
  refine wp_seq ?_
  refine wp_region_lit ?_
  by_cases hc7 : kd = (0 : Int)
  · skip
    refine ql (.bool true) (by kernel_rfl) (R_beq (b := (kd == (0 : Int))) (by kernel_rfl) (beq_t (hc7))) ?_
    refine ql (.bool true) (by kernel_rfl) (by kernel_rfl) ?_
    refine wpList_nil ?_
    refine x_then ?_
    refine wp_cond_true (by kernel_rfl) ?_
    refine wp_seq ?_
    refine wp_region_lit ?_
    refine ql (.agg #[.int .i64 rows, .int .i64 cols, .slice A cs.length c]) (by kernel_rfl) (R_loadN (p := ⟨g1, 0, none⟩) [.int .i64 rows, .int .i64 cols, .slice A cs.length c] (by kernel_rfl) (by kernel_rfl) (by kernel_rfl) (by kernel_rfl) (three_at (HS.cell (i := 2) (j := 0) rfl rfl) (HS.cell (i := 2) (j := 1) rfl rfl) (HS.cell (i := 2) (j := 2) rfl rfl))) ?_
    refine ql (.pointer (some ⟨g3, 1, none⟩)) (by kernel_rfl) (by kernel_rfl) ?_
    refine ql (.int .i64 r) (by kernel_rfl) (R_load (p := ⟨g3, 1, none⟩) (by kernel_rfl) (by kernel_rfl) (by kernel_rfl) (HS.cell (i := 1) (j := 1) rfl rfl)) ?_
    refine ql (.pointer (some ⟨g3, 2, none⟩)) (by kernel_rfl) (by kernel_rfl) ?_
    refine ql (.int .i64 q) (by kernel_rfl) (R_load (p := ⟨g3, 2, none⟩) (by kernel_rfl) (by kernel_rfl) (by kernel_rfl) (HS.cell (i := 1) (j := 2) rfl rfl)) ?_
    refine qc (f := 52) (args := #[.agg #[.int .i64 rows, .int .i64 cols, .slice A cs.length c], .int .i64 r, .int .i64 q]) (by kernel_rfl) (R_call #[.agg #[.int .i64 rows, .int .i64 cols, .slice A cs.length c], .int .i64 r, .int .i64 q] Tryd.func52 (by kernel_rfl) (by kernel_rfl) (by kernel_rfl)) ?_
    replace HS : St W M W6 [row A cs.length c (cf actD cs) 58 2, blk g5 [.int .i64 0, .int .i64 0, .slice none 0 0] 46, blk g3 [.int .i64 kd, .int .i64 r, .int .i64 q] 50, blk g1 [.int .i64 rows, .int .i64 cols, .slice A cs.length c] 46, blk g [.slice R rs.length cr, .int .i64 cols] 87, row R rs.length cr (cf cpt rs) 32 1, many (rsE 77 74 cols rs)] := HS.perm (perm_ [6, 0, 1, 2, 3, 4, 5] (by kernel_rfl) rfl)
    refine (c6add A c cs rows cols Ls r q _ _ (St.focus (F := [row A cs.length c (cf actD cs) 58 2]) HS) (by omega) hMC (by omega)).mono ?_
    rintro e W11 ⟨A8, c9, cq10, rfl, H_, hMn⟩
    refine ⟨_, rfl, ?_⟩
    replace HS : St W M W11 [row A8 cq10.length c9 (cf actD cq10) 58 2, blk g5 [.int .i64 0, .int .i64 0, .slice none 0 0] 46, blk g3 [.int .i64 kd, .int .i64 r, .int .i64 q] 50, blk g1 [.int .i64 rows, .int .i64 cols, .slice A cs.length c] 46, blk g [.slice R rs.length cr, .int .i64 cols] 87, row R rs.length cr (cf cpt rs) 32 1, many (rsE 77 74 cols rs)] := HS.join (F := [row A cs.length c (cf actD cs) 58 2]) (G := [row A8 cq10.length c9 (cf actD cq10) 58 2]) H_
    clear H_
    refine ql (.tuple #[.agg #[.int .i64 rows, .int .i64 cols, .slice A8 cq10.length c9], .bool (addMB Ls cols r q)]) (by kernel_rfl) (by kernel_rfl) ?_
    refine ql (.agg #[.int .i64 rows, .int .i64 cols, .slice A8 cq10.length c9]) (by kernel_rfl) (by kernel_rfl) ?_
    refine ql (.bool (addMB Ls cols r q)) (by kernel_rfl) (by kernel_rfl) ?_
    refine kb HS [.int .i64 0, .int .i64 0, .slice none 0 0] 46 (fun g => .pointer (some ⟨g, 0, none⟩)) (by kernel_rfl) (by kernel_rfl) ?_
    intro g12 W13 H_
    replace HS : St W M W13 [blk g12 [.int .i64 0, .int .i64 0, .slice none 0 0] 46, row A8 cq10.length c9 (cf actD cq10) 58 2, blk g5 [.int .i64 0, .int .i64 0, .slice none 0 0] 46, blk g3 [.int .i64 kd, .int .i64 r, .int .i64 q] 50, blk g1 [.int .i64 rows, .int .i64 cols, .slice A cs.length c] 46, blk g [.slice R rs.length cr, .int .i64 cols] 87, row R rs.length cr (cf cpt rs) 32 1, many (rsE 77 74 cols rs)] := H_
    clear H_
    refine ks (v := .agg #[.int .i64 rows, .int .i64 cols, .slice A8 cq10.length c9]) HS 0 rfl (0) [.int .i64 rows, .int .i64 cols, .slice A8 cq10.length c9] (by kernel_rfl) (by kernel_rfl) (by kernel_rfl) (by kernel_rfl) (by kernel_rfl) (one_ (by kernel_rfl)) (Nat.le_of_ble_eq_true rfl) rfl ?_
    intro W14 H_
    replace HS : St W M W14 [blk g12 [.int .i64 rows, .int .i64 cols, .slice A8 cq10.length c9] 46, row A8 cq10.length c9 (cf actD cq10) 58 2, blk g5 [.int .i64 0, .int .i64 0, .slice none 0 0] 46, blk g3 [.int .i64 kd, .int .i64 r, .int .i64 q] 50, blk g1 [.int .i64 rows, .int .i64 cols, .slice A cs.length c] 46, blk g [.slice R rs.length cr, .int .i64 cols] 87, row R rs.length cr (cf cpt rs) 32 1, many (rsE 77 74 cols rs)] := H_
    clear H_
    refine ql (.bool (addMB Ls cols r q)) (by kernel_rfl) (by kernel_rfl) ?_
    refine wpList_nil ?_
    refine x_then ?_
    refine wp_seq ?_
    refine t_start HS (fun k_ => (blk g [.slice R rs.length cr, .int .i64 cols] 87).own k_ ∨ (row R rs.length cr (cf cpt rs) 32 1).own k_ ∨ (many (rsE 77 74 cols rs)).own k_ ∨ (blk g5 [.int .i64 0, .int .i64 0, .slice none 0 0] 46).own k_) 11 (by kernel_rfl) rfl ?_
    intro W15 H_ HD_
    clear HD_
    replace HS : St W M W15 [blk g12 [.int .i64 rows, .int .i64 cols, .slice A8 cq10.length c9] 46, row A8 cq10.length c9 (cf actD cq10) 58 2, blk g5 [.int .i64 0, .int .i64 0, .slice none 0 0] 46, blk g3 [.int .i64 kd, .int .i64 r, .int .i64 q] 50, blk g1 [.int .i64 rows, .int .i64 cols, .slice A cs.length c] 46, blk g [.slice R rs.length cr, .int .i64 cols] 87, row R rs.length cr (cf cpt rs) 32 1, many (rsE 77 74 cols rs)] := H_
    clear H_
    have HV := HS
    have HK := Kpt.refl (fun k_ => (blk g [.slice R rs.length cr, .int .i64 cols] 87).own k_ ∨ (row R rs.length cr (cf cpt rs) 32 1).own k_ ∨ (many (rsE 77 74 cols rs)).own k_ ∨ (blk g5 [.int .i64 0, .int .i64 0, .slice none 0 0] 46).own k_) W15
    refine t_q (n := 10) 0 (.agg #[.int .i64 rows, .int .i64 cols, .slice A8 cq10.length c9]) rfl (by kernel_rfl) (by kernel_rfl) (fun _ _ _ h => h) (fun w' hk => (R_loadN (p := ⟨g12, 0, none⟩) [.int .i64 rows, .int .i64 cols, .slice A8 cq10.length c9] (by kernel_rfl) (by kernel_rfl) (by kernel_rfl) (by kernel_rfl) (three_at (hk.cellN (fun h_ => h_.elim (HV.sepB (a := 0) (b := 5) (by decide) rfl rfl) (fun h_ => h_.elim (HV.sepB (a := 0) (b := 6) (by decide) rfl rfl) (fun h_ => h_.elim (HV.sepB (a := 0) (b := 7) (by decide) rfl rfl) (HV.sepB (a := 0) (b := 2) (by decide) rfl rfl)))) (HV.cell (i := 0) (j := 0) rfl rfl)) (hk.cellN (fun h_ => h_.elim (HV.sepB (a := 0) (b := 5) (by decide) rfl rfl) (fun h_ => h_.elim (HV.sepB (a := 0) (b := 6) (by decide) rfl rfl) (fun h_ => h_.elim (HV.sepB (a := 0) (b := 7) (by decide) rfl rfl) (HV.sepB (a := 0) (b := 2) (by decide) rfl rfl)))) (HV.cell (i := 0) (j := 1) rfl rfl)) (hk.cellN (fun h_ => h_.elim (HV.sepB (a := 0) (b := 5) (by decide) rfl rfl) (fun h_ => h_.elim (HV.sepB (a := 0) (b := 6) (by decide) rfl rfl) (fun h_ => h_.elim (HV.sepB (a := 0) (b := 7) (by decide) rfl rfl) (HV.sepB (a := 0) (b := 2) (by decide) rfl rfl)))) (HV.cell (i := 0) (j := 2) rfl rfl))))) HK ?_
    refine t_q (n := 9) 1 (.pointer (some ⟨g, 0, none⟩)) rfl (by kernel_rfl) (by kernel_rfl) (fun _ _ _ h => h) (fun w' hk => (by kernel_rfl)) HK ?_
    refine t_q (n := 8) 2 (.pointer (some ⟨g3, 1, none⟩)) rfl (by kernel_rfl) (by kernel_rfl) (fun _ _ _ h => h) (fun w' hk => (by kernel_rfl)) HK ?_
    refine t_q (n := 7) 3 (.int .i64 r) rfl (by kernel_rfl) (by kernel_rfl) (fun _ _ _ h => h) (fun w' hk => (R_load (p := ⟨g3, 1, none⟩) (by kernel_rfl) (by kernel_rfl) (by kernel_rfl) (hk.cellN (fun h_ => h_.elim (HV.sepB (a := 3) (b := 5) (by decide) rfl rfl) (fun h_ => h_.elim (HV.sepB (a := 3) (b := 6) (by decide) rfl rfl) (fun h_ => h_.elim (HV.sepB (a := 3) (b := 7) (by decide) rfl rfl) (HV.sepB (a := 3) (b := 2) (by decide) rfl rfl)))) (HV.cell (i := 3) (j := 1) rfl rfl)))) HK ?_
    refine t_q (n := 6) 4 (.pointer (some ⟨g3, 2, none⟩)) rfl (by kernel_rfl) (by kernel_rfl) (fun _ _ _ h => h) (fun w' hk => (by kernel_rfl)) HK ?_
    refine t_q (n := 5) 5 (.int .i64 q) rfl (by kernel_rfl) (by kernel_rfl) (fun _ _ _ h => h) (fun w' hk => (R_load (p := ⟨g3, 2, none⟩) (by kernel_rfl) (by kernel_rfl) (by kernel_rfl) (hk.cellN (fun h_ => h_.elim (HV.sepB (a := 3) (b := 5) (by decide) rfl rfl) (fun h_ => h_.elim (HV.sepB (a := 3) (b := 6) (by decide) rfl rfl) (fun h_ => h_.elim (HV.sepB (a := 3) (b := 7) (by decide) rfl rfl) (HV.sepB (a := 3) (b := 2) (by decide) rfl rfl)))) (HV.cell (i := 3) (j := 2) rfl rfl)))) HK ?_
    refine t_q (n := 4) 7 (.bool (addMB Ls cols r q)) rfl (by kernel_rfl) (by kernel_rfl) (fun _ _ _ h => h) (fun w' hk => (by kernel_rfl)) HK ?_
    refine t_c (n := 3) 6 (f := 36) (args := #[.pointer (some ⟨g, 0, none⟩), .int .i64 r, .int .i64 q]) rfl (by kernel_rfl) (by kernel_rfl) (R_call #[.pointer (some ⟨g, 0, none⟩), .int .i64 r, .int .i64 q] Tryd.func36 (by kernel_rfl) (by kernel_rfl) (by kernel_rfl)) ?_
    replace HS : St W M W15 [blk g [.slice R rs.length cr, .int .i64 cols] 87, row R rs.length cr (cf cpt rs) 32 1, many (rsE 77 74 cols rs), blk g12 [.int .i64 rows, .int .i64 cols, .slice A8 cq10.length c9] 46, row A8 cq10.length c9 (cf actD cq10) 58 2, blk g5 [.int .i64 0, .int .i64 0, .slice none 0 0] 46, blk g3 [.int .i64 kd, .int .i64 r, .int .i64 q] 50, blk g1 [.int .i64 rows, .int .i64 cols, .slice A cs.length c] 46] := HS.perm (perm_ [5, 6, 7, 0, 1, 2, 3, 4] (by kernel_rfl) rfl)
    refine (madd g cr R cols rs Ls r q _ _ (St.focus (F := [blk g [.slice R rs.length cr, .int .i64 cols] 87, row R rs.length cr (cf cpt rs) 32 1, many (rsE 77 74 cols rs)]) HS) hR (by omega) (by omega)).mono ?_
    rintro e W18 ⟨rs16, rfl, H_, hR17, hlrs16⟩
    have hkf_ : ∀ k_, owns [blk g [.slice R rs.length cr, .int .i64 cols] 87, row R rs.length cr (cf cpt rs) 32 1, many (rsE 77 74 cols rs)] k_ → (blk g [.slice R rs.length cr, .int .i64 cols] 87).own k_ ∨ (row R rs.length cr (cf cpt rs) 32 1).own k_ ∨ (many (rsE 77 74 cols rs)).own k_ ∨ (blk g5 [.int .i64 0, .int .i64 0, .slice none 0 0] 46).own k_ := by
      intro k_ h_; obtain ⟨e_, he_, ho_⟩ := h_; simp only [List.mem_cons, List.not_mem_nil, or_false] at he_; rcases he_ with rfl | rfl | rfl <;> first | exact (.inl ho_) | exact (.inr (.inl ho_)) | exact (.inr (.inr (.inl ho_))) | exact (.inr (.inr (.inr ho_)))
    refine ⟨_, rfl, HK.trans H_.kept (fun _ h_ => .inl (hkf_ _ h_)), ?_⟩
    replace HK := HK.trans H_.kept (fun _ h_ => .inl (hkf_ _ h_))
    replace HS : St W M W18 [blk g [.slice R rs16.length cr, .int .i64 cols] 87, row R rs16.length cr (cf cpt rs16) 32 1, many (rsE 77 74 cols rs16), blk g12 [.int .i64 rows, .int .i64 cols, .slice A8 cq10.length c9] 46, row A8 cq10.length c9 (cf actD cq10) 58 2, blk g5 [.int .i64 0, .int .i64 0, .slice none 0 0] 46, blk g3 [.int .i64 kd, .int .i64 r, .int .i64 q] 50, blk g1 [.int .i64 rows, .int .i64 cols, .slice A cs.length c] 46] := HS.join (F := [blk g [.slice R rs.length cr, .int .i64 cols] 87, row R rs.length cr (cf cpt rs) 32 1, many (rsE 77 74 cols rs)]) (G := [blk g [.slice R rs16.length cr, .int .i64 cols] 87, row R rs16.length cr (cf cpt rs16) 32 1, many (rsE 77 74 cols rs16)]) H_
    clear H_
    refine t_q (n := 2) 8 (.bool true) rfl (by kernel_rfl) (by kernel_rfl) (fun _ _ _ h => h) (fun w' hk => (R_beq (b := ((addMB Ls cols r q) == (addMB Ls cols r q))) (by kernel_rfl) (beq_same _))) HK ?_
    obtain ⟨W19, hrun_, H_, hk_⟩ := ex_ks (P := Tryd.prog) (ty := 0) (ps := "law.go:23") (af := #[{ on := 0, ground := Go.Ground.data }, { on := 6, ground := Go.Ground.chain }, { on := 0, ground := Go.Ground.phase }, { on := 1, ground := (Go.Ground.textOnly Go.Departure.lateStores) }, { on := 2, ground := (Go.Ground.textOnly Go.Departure.lateStores) }, { on := 3, ground := (Go.Ground.textOnly Go.Departure.lateStores) }, { on := 4, ground := (Go.Ground.textOnly Go.Departure.lateStores) }, { on := 5, ground := (Go.Ground.textOnly Go.Departure.lateStores) }, { on := 6, ground := (Go.Ground.textOnly Go.Departure.lateStoresUnsure) }, { on := 7, ground := (Go.Ground.textOnly Go.Departure.lateStores) }, { on := 8, ground := (Go.Ground.textOnly Go.Departure.lateStores) }]) (gd := none) (t := 46) (x := (Go.Operand.tmp 6)) (y := (Go.Operand.tmp 27)) (v := .agg #[.int .i64 rows, .int .i64 cols, .slice A8 cq10.length c9]) HS 5 rfl (0) [.int .i64 rows, .int .i64 cols, .slice A8 cq10.length c9] (by kernel_rfl) (by kernel_rfl) (by kernel_rfl) (by kernel_rfl) (one_ (by kernel_rfl)) (Nat.le_of_ble_eq_true rfl)
    replace HK := HK.trans hk_ (fun _ h_ => .inl (.inr (.inr (.inr (blk_own h_)))))
    refine t_s (n := 1) 9 rfl (by kernel_rfl) (by kernel_rfl) hrun_ HK ?_
    clear hk_ hrun_
    replace HS : St W M W19 [blk g [.slice R rs16.length cr, .int .i64 cols] 87, row R rs16.length cr (cf cpt rs16) 32 1, many (rsE 77 74 cols rs16), blk g12 [.int .i64 rows, .int .i64 cols, .slice A8 cq10.length c9] 46, row A8 cq10.length c9 (cf actD cq10) 58 2, blk g5 [.int .i64 rows, .int .i64 cols, .slice A8 cq10.length c9] 46, blk g3 [.int .i64 kd, .int .i64 r, .int .i64 q] 50, blk g1 [.int .i64 rows, .int .i64 cols, .slice A cs.length c] 46] := H_
    clear H_
    refine t_q (n := 0) 10 (.bool true) rfl (by kernel_rfl) (by kernel_rfl) (fun _ _ _ h => h) (fun w' hk => (by kernel_rfl)) HK ?_
    refine t_done (by kernel_rfl) ?_
    clear HV HK
    refine x_then ?_
    refine wp_ret ?_
    refine x_inbR ?_
    refine x_thenR ?_
    refine ret_ (.tuple #[.agg #[.int .i64 rows, .int .i64 cols, .slice A8 cq10.length c9], .bool true]) (res2 rfl (oneRes_agg (p := ⟨g5, 0, none⟩) [.int .i64 rows, .int .i64 cols, .slice A8 cq10.length c9] (by kernel_rfl) (by kernel_rfl) (by kernel_rfl) (by kernel_rfl) (HS.cellsN (i := 5) rfl)) (oneRes_t (by kernel_rfl))) ?_
    replace HS : St W M W19 [blk g [.slice R rs16.length cr, .int .i64 cols] 87, row R rs16.length cr (cf cpt rs16) 32 1, many (rsE 77 74 cols rs16), row A8 cq10.length c9 (cf actD cq10) 58 2] := St.tail (F := [blk g12 [.int .i64 rows, .int .i64 cols, .slice A8 cq10.length c9] 46, blk g5 [.int .i64 rows, .int .i64 cols, .slice A8 cq10.length c9] 46, blk g3 [.int .i64 kd, .int .i64 r, .int .i64 q] 50, blk g1 [.int .i64 rows, .int .i64 cols, .slice A cs.length c] 46]) (HS.perm (perm_ [3, 5, 6, 7, 0, 1, 2, 4] (by kernel_rfl) rfl))
    exact ⟨rs16, A8, c9, cq10, (addM Ls cols r q), rfl, HS, hR17, hMn, by omega⟩
  · skip
    refine ql (.bool false) (by kernel_rfl) (R_beq (b := (kd == (0 : Int))) (by kernel_rfl) (beq_f (hc7))) ?_
    refine ql (.bool false) (by kernel_rfl) (by kernel_rfl) ?_
    refine wpList_nil ?_
    refine x_then ?_
    refine wp_cond_false (by kernel_rfl) ?_
    refine wp_seq ?_
    refine wp_region_lit ?_
    by_cases hc20 : kd = (1 : Int)
    · skip
      refine ql (.bool true) (by kernel_rfl) (R_beq (b := (kd == (1 : Int))) (by kernel_rfl) (beq_t (hc20))) ?_
      refine ql (.bool true) (by kernel_rfl) (by kernel_rfl) ?_
      refine wpList_nil ?_
      refine x_then ?_
      refine wp_cond_true (by kernel_rfl) ?_
      refine wp_seq ?_
      refine wp_region_lit ?_
      refine ql (.agg #[.int .i64 rows, .int .i64 cols, .slice A cs.length c]) (by kernel_rfl) (R_loadN (p := ⟨g1, 0, none⟩) [.int .i64 rows, .int .i64 cols, .slice A cs.length c] (by kernel_rfl) (by kernel_rfl) (by kernel_rfl) (by kernel_rfl) (three_at (HS.cell (i := 2) (j := 0) rfl rfl) (HS.cell (i := 2) (j := 1) rfl rfl) (HS.cell (i := 2) (j := 2) rfl rfl))) ?_
      refine ql (.pointer (some ⟨g3, 1, none⟩)) (by kernel_rfl) (by kernel_rfl) ?_
      refine ql (.int .i64 r) (by kernel_rfl) (R_load (p := ⟨g3, 1, none⟩) (by kernel_rfl) (by kernel_rfl) (by kernel_rfl) (HS.cell (i := 1) (j := 1) rfl rfl)) ?_
      refine ql (.pointer (some ⟨g3, 2, none⟩)) (by kernel_rfl) (by kernel_rfl) ?_
      refine ql (.int .i64 q) (by kernel_rfl) (R_load (p := ⟨g3, 2, none⟩) (by kernel_rfl) (by kernel_rfl) (by kernel_rfl) (HS.cell (i := 1) (j := 2) rfl rfl)) ?_
      refine qc (f := 53) (args := #[.agg #[.int .i64 rows, .int .i64 cols, .slice A cs.length c], .int .i64 r, .int .i64 q]) (by kernel_rfl) (R_call #[.agg #[.int .i64 rows, .int .i64 cols, .slice A cs.length c], .int .i64 r, .int .i64 q] Tryd.func53 (by kernel_rfl) (by kernel_rfl) (by kernel_rfl)) ?_
      replace HS : St W M W6 [row A cs.length c (cf actD cs) 58 2, blk g5 [.int .i64 0, .int .i64 0, .slice none 0 0] 46, blk g3 [.int .i64 kd, .int .i64 r, .int .i64 q] 50, blk g1 [.int .i64 rows, .int .i64 cols, .slice A cs.length c] 46, blk g [.slice R rs.length cr, .int .i64 cols] 87, row R rs.length cr (cf cpt rs) 32 1, many (rsE 77 74 cols rs)] := HS.perm (perm_ [6, 0, 1, 2, 3, 4, 5] (by kernel_rfl) rfl)
      refine (c6or A c cs rows cols Ls r q _ _ (St.focus (F := [row A cs.length c (cf actD cs) 58 2]) HS) hMC hSo (by omega) h0 h1 h3).mono ?_
      rintro e W24 ⟨A21, c22, cq23, rfl, H_, hMn⟩
      refine ⟨_, rfl, ?_⟩
      replace HS : St W M W24 [row A21 cq23.length c22 (cf actD cq23) 58 2, blk g5 [.int .i64 0, .int .i64 0, .slice none 0 0] 46, blk g3 [.int .i64 kd, .int .i64 r, .int .i64 q] 50, blk g1 [.int .i64 rows, .int .i64 cols, .slice A cs.length c] 46, blk g [.slice R rs.length cr, .int .i64 cols] 87, row R rs.length cr (cf cpt rs) 32 1, many (rsE 77 74 cols rs)] := HS.join (F := [row A cs.length c (cf actD cs) 58 2]) (G := [row A21 cq23.length c22 (cf actD cq23) 58 2]) H_
      clear H_
      refine ql (.tuple #[.agg #[.int .i64 rows, .int .i64 cols, .slice A21 cq23.length c22], .bool (orMB Ls r q)]) (by kernel_rfl) (by kernel_rfl) ?_
      refine ql (.agg #[.int .i64 rows, .int .i64 cols, .slice A21 cq23.length c22]) (by kernel_rfl) (by kernel_rfl) ?_
      refine ql (.bool (orMB Ls r q)) (by kernel_rfl) (by kernel_rfl) ?_
      refine kb HS [.int .i64 0, .int .i64 0, .slice none 0 0] 46 (fun g => .pointer (some ⟨g, 0, none⟩)) (by kernel_rfl) (by kernel_rfl) ?_
      intro g25 W26 H_
      replace HS : St W M W26 [blk g25 [.int .i64 0, .int .i64 0, .slice none 0 0] 46, row A21 cq23.length c22 (cf actD cq23) 58 2, blk g5 [.int .i64 0, .int .i64 0, .slice none 0 0] 46, blk g3 [.int .i64 kd, .int .i64 r, .int .i64 q] 50, blk g1 [.int .i64 rows, .int .i64 cols, .slice A cs.length c] 46, blk g [.slice R rs.length cr, .int .i64 cols] 87, row R rs.length cr (cf cpt rs) 32 1, many (rsE 77 74 cols rs)] := H_
      clear H_
      refine ks (v := .agg #[.int .i64 rows, .int .i64 cols, .slice A21 cq23.length c22]) HS 0 rfl (0) [.int .i64 rows, .int .i64 cols, .slice A21 cq23.length c22] (by kernel_rfl) (by kernel_rfl) (by kernel_rfl) (by kernel_rfl) (by kernel_rfl) (one_ (by kernel_rfl)) (Nat.le_of_ble_eq_true rfl) rfl ?_
      intro W27 H_
      replace HS : St W M W27 [blk g25 [.int .i64 rows, .int .i64 cols, .slice A21 cq23.length c22] 46, row A21 cq23.length c22 (cf actD cq23) 58 2, blk g5 [.int .i64 0, .int .i64 0, .slice none 0 0] 46, blk g3 [.int .i64 kd, .int .i64 r, .int .i64 q] 50, blk g1 [.int .i64 rows, .int .i64 cols, .slice A cs.length c] 46, blk g [.slice R rs.length cr, .int .i64 cols] 87, row R rs.length cr (cf cpt rs) 32 1, many (rsE 77 74 cols rs)] := H_
      clear H_
      refine ql (.bool (orMB Ls r q)) (by kernel_rfl) (by kernel_rfl) ?_
      refine wpList_nil ?_
      refine x_then ?_
      refine wp_seq ?_
      refine t_start HS (fun k_ => (blk g [.slice R rs.length cr, .int .i64 cols] 87).own k_ ∨ (row R rs.length cr (cf cpt rs) 32 1).own k_ ∨ (many (rsE 77 74 cols rs)).own k_ ∨ (blk g5 [.int .i64 0, .int .i64 0, .slice none 0 0] 46).own k_) 11 (by kernel_rfl) rfl ?_
      intro W28 H_ HD_
      clear HD_
      replace HS : St W M W28 [blk g25 [.int .i64 rows, .int .i64 cols, .slice A21 cq23.length c22] 46, row A21 cq23.length c22 (cf actD cq23) 58 2, blk g5 [.int .i64 0, .int .i64 0, .slice none 0 0] 46, blk g3 [.int .i64 kd, .int .i64 r, .int .i64 q] 50, blk g1 [.int .i64 rows, .int .i64 cols, .slice A cs.length c] 46, blk g [.slice R rs.length cr, .int .i64 cols] 87, row R rs.length cr (cf cpt rs) 32 1, many (rsE 77 74 cols rs)] := H_
      clear H_
      have HV := HS
      have HK := Kpt.refl (fun k_ => (blk g [.slice R rs.length cr, .int .i64 cols] 87).own k_ ∨ (row R rs.length cr (cf cpt rs) 32 1).own k_ ∨ (many (rsE 77 74 cols rs)).own k_ ∨ (blk g5 [.int .i64 0, .int .i64 0, .slice none 0 0] 46).own k_) W28
      refine t_q (n := 10) 0 (.agg #[.int .i64 rows, .int .i64 cols, .slice A21 cq23.length c22]) rfl (by kernel_rfl) (by kernel_rfl) (fun _ _ _ h => h) (fun w' hk => (R_loadN (p := ⟨g25, 0, none⟩) [.int .i64 rows, .int .i64 cols, .slice A21 cq23.length c22] (by kernel_rfl) (by kernel_rfl) (by kernel_rfl) (by kernel_rfl) (three_at (hk.cellN (fun h_ => h_.elim (HV.sepB (a := 0) (b := 5) (by decide) rfl rfl) (fun h_ => h_.elim (HV.sepB (a := 0) (b := 6) (by decide) rfl rfl) (fun h_ => h_.elim (HV.sepB (a := 0) (b := 7) (by decide) rfl rfl) (HV.sepB (a := 0) (b := 2) (by decide) rfl rfl)))) (HV.cell (i := 0) (j := 0) rfl rfl)) (hk.cellN (fun h_ => h_.elim (HV.sepB (a := 0) (b := 5) (by decide) rfl rfl) (fun h_ => h_.elim (HV.sepB (a := 0) (b := 6) (by decide) rfl rfl) (fun h_ => h_.elim (HV.sepB (a := 0) (b := 7) (by decide) rfl rfl) (HV.sepB (a := 0) (b := 2) (by decide) rfl rfl)))) (HV.cell (i := 0) (j := 1) rfl rfl)) (hk.cellN (fun h_ => h_.elim (HV.sepB (a := 0) (b := 5) (by decide) rfl rfl) (fun h_ => h_.elim (HV.sepB (a := 0) (b := 6) (by decide) rfl rfl) (fun h_ => h_.elim (HV.sepB (a := 0) (b := 7) (by decide) rfl rfl) (HV.sepB (a := 0) (b := 2) (by decide) rfl rfl)))) (HV.cell (i := 0) (j := 2) rfl rfl))))) HK ?_
      refine t_q (n := 9) 1 (.pointer (some ⟨g, 0, none⟩)) rfl (by kernel_rfl) (by kernel_rfl) (fun _ _ _ h => h) (fun w' hk => (by kernel_rfl)) HK ?_
      refine t_q (n := 8) 2 (.pointer (some ⟨g3, 1, none⟩)) rfl (by kernel_rfl) (by kernel_rfl) (fun _ _ _ h => h) (fun w' hk => (by kernel_rfl)) HK ?_
      refine t_q (n := 7) 3 (.int .i64 r) rfl (by kernel_rfl) (by kernel_rfl) (fun _ _ _ h => h) (fun w' hk => (R_load (p := ⟨g3, 1, none⟩) (by kernel_rfl) (by kernel_rfl) (by kernel_rfl) (hk.cellN (fun h_ => h_.elim (HV.sepB (a := 3) (b := 5) (by decide) rfl rfl) (fun h_ => h_.elim (HV.sepB (a := 3) (b := 6) (by decide) rfl rfl) (fun h_ => h_.elim (HV.sepB (a := 3) (b := 7) (by decide) rfl rfl) (HV.sepB (a := 3) (b := 2) (by decide) rfl rfl)))) (HV.cell (i := 3) (j := 1) rfl rfl)))) HK ?_
      refine t_q (n := 6) 4 (.pointer (some ⟨g3, 2, none⟩)) rfl (by kernel_rfl) (by kernel_rfl) (fun _ _ _ h => h) (fun w' hk => (by kernel_rfl)) HK ?_
      refine t_q (n := 5) 5 (.int .i64 q) rfl (by kernel_rfl) (by kernel_rfl) (fun _ _ _ h => h) (fun w' hk => (R_load (p := ⟨g3, 2, none⟩) (by kernel_rfl) (by kernel_rfl) (by kernel_rfl) (hk.cellN (fun h_ => h_.elim (HV.sepB (a := 3) (b := 5) (by decide) rfl rfl) (fun h_ => h_.elim (HV.sepB (a := 3) (b := 6) (by decide) rfl rfl) (fun h_ => h_.elim (HV.sepB (a := 3) (b := 7) (by decide) rfl rfl) (HV.sepB (a := 3) (b := 2) (by decide) rfl rfl)))) (HV.cell (i := 3) (j := 2) rfl rfl)))) HK ?_
      refine t_q (n := 4) 7 (.bool (orMB Ls r q)) rfl (by kernel_rfl) (by kernel_rfl) (fun _ _ _ h => h) (fun w' hk => (by kernel_rfl)) HK ?_
      refine t_c (n := 3) 6 (f := 38) (args := #[.pointer (some ⟨g, 0, none⟩), .int .i64 r, .int .i64 q]) rfl (by kernel_rfl) (by kernel_rfl) (R_call #[.pointer (some ⟨g, 0, none⟩), .int .i64 r, .int .i64 q] Tryd.func38 (by kernel_rfl) (by kernel_rfl) (by kernel_rfl)) ?_
      replace HS : St W M W28 [blk g [.slice R rs.length cr, .int .i64 cols] 87, row R rs.length cr (cf cpt rs) 32 1, many (rsE 77 74 cols rs), blk g25 [.int .i64 rows, .int .i64 cols, .slice A21 cq23.length c22] 46, row A21 cq23.length c22 (cf actD cq23) 58 2, blk g5 [.int .i64 0, .int .i64 0, .slice none 0 0] 46, blk g3 [.int .i64 kd, .int .i64 r, .int .i64 q] 50, blk g1 [.int .i64 rows, .int .i64 cols, .slice A cs.length c] 46] := HS.perm (perm_ [5, 6, 7, 0, 1, 2, 3, 4] (by kernel_rfl) rfl)
      refine (mor g cr R cols rs Ls r q _ _ (St.focus (F := [blk g [.slice R rs.length cr, .int .i64 cols] 87, row R rs.length cr (cf cpt rs) 32 1, many (rsE 77 74 cols rs)]) HS) hR (by omega) (by omega)).mono ?_
      rintro e W31 ⟨rs29, rfl, H_, hR30, hlrs29⟩
      have hkf_ : ∀ k_, owns [blk g [.slice R rs.length cr, .int .i64 cols] 87, row R rs.length cr (cf cpt rs) 32 1, many (rsE 77 74 cols rs)] k_ → (blk g [.slice R rs.length cr, .int .i64 cols] 87).own k_ ∨ (row R rs.length cr (cf cpt rs) 32 1).own k_ ∨ (many (rsE 77 74 cols rs)).own k_ ∨ (blk g5 [.int .i64 0, .int .i64 0, .slice none 0 0] 46).own k_ := by
        intro k_ h_; obtain ⟨e_, he_, ho_⟩ := h_; simp only [List.mem_cons, List.not_mem_nil, or_false] at he_; rcases he_ with rfl | rfl | rfl <;> first | exact (.inl ho_) | exact (.inr (.inl ho_)) | exact (.inr (.inr (.inl ho_))) | exact (.inr (.inr (.inr ho_)))
      refine ⟨_, rfl, HK.trans H_.kept (fun _ h_ => .inl (hkf_ _ h_)), ?_⟩
      replace HK := HK.trans H_.kept (fun _ h_ => .inl (hkf_ _ h_))
      replace HS : St W M W31 [blk g [.slice R rs29.length cr, .int .i64 cols] 87, row R rs29.length cr (cf cpt rs29) 32 1, many (rsE 77 74 cols rs29), blk g25 [.int .i64 rows, .int .i64 cols, .slice A21 cq23.length c22] 46, row A21 cq23.length c22 (cf actD cq23) 58 2, blk g5 [.int .i64 0, .int .i64 0, .slice none 0 0] 46, blk g3 [.int .i64 kd, .int .i64 r, .int .i64 q] 50, blk g1 [.int .i64 rows, .int .i64 cols, .slice A cs.length c] 46] := HS.join (F := [blk g [.slice R rs.length cr, .int .i64 cols] 87, row R rs.length cr (cf cpt rs) 32 1, many (rsE 77 74 cols rs)]) (G := [blk g [.slice R rs29.length cr, .int .i64 cols] 87, row R rs29.length cr (cf cpt rs29) 32 1, many (rsE 77 74 cols rs29)]) H_
      clear H_
      refine t_q (n := 2) 8 (.bool true) rfl (by kernel_rfl) (by kernel_rfl) (fun _ _ _ h => h) (fun w' hk => (R_beq (b := ((orMB Ls r q) == (orMB Ls r q))) (by kernel_rfl) (beq_same _))) HK ?_
      obtain ⟨W32, hrun_, H_, hk_⟩ := ex_ks (P := Tryd.prog) (ty := 0) (ps := "law.go:26") (af := #[{ on := 0, ground := Go.Ground.data }, { on := 6, ground := Go.Ground.chain }, { on := 0, ground := Go.Ground.phase }, { on := 1, ground := (Go.Ground.textOnly Go.Departure.lateStores) }, { on := 2, ground := (Go.Ground.textOnly Go.Departure.lateStores) }, { on := 3, ground := (Go.Ground.textOnly Go.Departure.lateStores) }, { on := 4, ground := (Go.Ground.textOnly Go.Departure.lateStores) }, { on := 5, ground := (Go.Ground.textOnly Go.Departure.lateStores) }, { on := 6, ground := (Go.Ground.textOnly Go.Departure.lateStoresUnsure) }, { on := 7, ground := (Go.Ground.textOnly Go.Departure.lateStores) }, { on := 8, ground := (Go.Ground.textOnly Go.Departure.lateStores) }]) (gd := none) (t := 46) (x := (Go.Operand.tmp 6)) (y := (Go.Operand.tmp 47)) (v := .agg #[.int .i64 rows, .int .i64 cols, .slice A21 cq23.length c22]) HS 5 rfl (0) [.int .i64 rows, .int .i64 cols, .slice A21 cq23.length c22] (by kernel_rfl) (by kernel_rfl) (by kernel_rfl) (by kernel_rfl) (one_ (by kernel_rfl)) (Nat.le_of_ble_eq_true rfl)
      replace HK := HK.trans hk_ (fun _ h_ => .inl (.inr (.inr (.inr (blk_own h_)))))
      refine t_s (n := 1) 9 rfl (by kernel_rfl) (by kernel_rfl) hrun_ HK ?_
      clear hk_ hrun_
      replace HS : St W M W32 [blk g [.slice R rs29.length cr, .int .i64 cols] 87, row R rs29.length cr (cf cpt rs29) 32 1, many (rsE 77 74 cols rs29), blk g25 [.int .i64 rows, .int .i64 cols, .slice A21 cq23.length c22] 46, row A21 cq23.length c22 (cf actD cq23) 58 2, blk g5 [.int .i64 rows, .int .i64 cols, .slice A21 cq23.length c22] 46, blk g3 [.int .i64 kd, .int .i64 r, .int .i64 q] 50, blk g1 [.int .i64 rows, .int .i64 cols, .slice A cs.length c] 46] := H_
      clear H_
      refine t_q (n := 0) 10 (.bool true) rfl (by kernel_rfl) (by kernel_rfl) (fun _ _ _ h => h) (fun w' hk => (by kernel_rfl)) HK ?_
      refine t_done (by kernel_rfl) ?_
      clear HV HK
      refine x_then ?_
      refine wp_ret ?_
      refine x_inbR ?_
      refine x_thenR ?_
      refine ret_ (.tuple #[.agg #[.int .i64 rows, .int .i64 cols, .slice A21 cq23.length c22], .bool true]) (res2 rfl (oneRes_agg (p := ⟨g5, 0, none⟩) [.int .i64 rows, .int .i64 cols, .slice A21 cq23.length c22] (by kernel_rfl) (by kernel_rfl) (by kernel_rfl) (by kernel_rfl) (HS.cellsN (i := 5) rfl)) (oneRes_t (by kernel_rfl))) ?_
      replace HS : St W M W32 [blk g [.slice R rs29.length cr, .int .i64 cols] 87, row R rs29.length cr (cf cpt rs29) 32 1, many (rsE 77 74 cols rs29), row A21 cq23.length c22 (cf actD cq23) 58 2] := St.tail (F := [blk g25 [.int .i64 rows, .int .i64 cols, .slice A21 cq23.length c22] 46, blk g5 [.int .i64 rows, .int .i64 cols, .slice A21 cq23.length c22] 46, blk g3 [.int .i64 kd, .int .i64 r, .int .i64 q] 50, blk g1 [.int .i64 rows, .int .i64 cols, .slice A cs.length c] 46]) (HS.perm (perm_ [3, 5, 6, 7, 0, 1, 2, 4] (by kernel_rfl) rfl))
      exact ⟨rs29, A21, c22, cq23, (orM Ls r q), rfl, HS, hR30, hMn, by omega⟩
    · skip
      refine ql (.bool false) (by kernel_rfl) (R_beq (b := (kd == (1 : Int))) (by kernel_rfl) (beq_f (hc20))) ?_
      refine ql (.bool false) (by kernel_rfl) (by kernel_rfl) ?_
      refine wpList_nil ?_
      refine x_then ?_
      refine wp_cond_false (by kernel_rfl) ?_
      refine wp_seq ?_
      refine wp_region_lit ?_
      by_cases hc33 : kd = (2 : Int)
      · skip
        refine ql (.bool true) (by kernel_rfl) (R_beq (b := (kd == (2 : Int))) (by kernel_rfl) (beq_t (hc33))) ?_
        refine ql (.bool true) (by kernel_rfl) (by kernel_rfl) ?_
        refine wpList_nil ?_
        refine x_then ?_
        refine wp_cond_true (by kernel_rfl) ?_
        refine wp_seq ?_
        refine wp_region_lit ?_
        refine ql (.agg #[.int .i64 rows, .int .i64 cols, .slice A cs.length c]) (by kernel_rfl) (R_loadN (p := ⟨g1, 0, none⟩) [.int .i64 rows, .int .i64 cols, .slice A cs.length c] (by kernel_rfl) (by kernel_rfl) (by kernel_rfl) (by kernel_rfl) (three_at (HS.cell (i := 2) (j := 0) rfl rfl) (HS.cell (i := 2) (j := 1) rfl rfl) (HS.cell (i := 2) (j := 2) rfl rfl))) ?_
        refine qc (f := 54) (args := #[.agg #[.int .i64 rows, .int .i64 cols, .slice A cs.length c]]) (by kernel_rfl) (R_call #[.agg #[.int .i64 rows, .int .i64 cols, .slice A cs.length c]] Tryd.func54 (by kernel_rfl) (by kernel_rfl) (by kernel_rfl)) ?_
        by_cases hsq : rows = cols
        · skip
          replace HS : St W M W6 [row A cs.length c (cf actD cs) 58 2, blk g5 [.int .i64 0, .int .i64 0, .slice none 0 0] 46, blk g3 [.int .i64 kd, .int .i64 r, .int .i64 q] 50, blk g1 [.int .i64 rows, .int .i64 cols, .slice A cs.length c] 46, blk g [.slice R rs.length cr, .int .i64 cols] 87, row R rs.length cr (cf cpt rs) 32 1, many (rsE 77 74 cols rs)] := HS.perm (perm_ [6, 0, 1, 2, 3, 4, 5] (by kernel_rfl) rfl)
          refine (c6close A c cs rows cols Ls _ _ (St.focus (F := [row A cs.length c (cf actD cs) 58 2]) HS) hMC hSo (by omega) h0 h1 h3 hsq).mono ?_
          rintro e W37 ⟨A34, c35, cq36, rfl, H_, hMn⟩
          refine ⟨_, rfl, ?_⟩
          replace HS : St W M W37 [row A34 cq36.length c35 (cf actD cq36) 58 2, blk g5 [.int .i64 0, .int .i64 0, .slice none 0 0] 46, blk g3 [.int .i64 kd, .int .i64 r, .int .i64 q] 50, blk g1 [.int .i64 rows, .int .i64 cols, .slice A cs.length c] 46, blk g [.slice R rs.length cr, .int .i64 cols] 87, row R rs.length cr (cf cpt rs) 32 1, many (rsE 77 74 cols rs)] := HS.join (F := [row A cs.length c (cf actD cs) 58 2]) (G := [row A34 cq36.length c35 (cf actD cq36) 58 2]) H_
          clear H_
          refine ql (.tuple #[.agg #[.int .i64 rows, .int .i64 cols, .slice A34 cq36.length c35], .int .i64 ((cntL (clo Ls) : Int) - (cntL Ls : Int))]) (by kernel_rfl) (by kernel_rfl) ?_
          refine ql (.agg #[.int .i64 rows, .int .i64 cols, .slice A34 cq36.length c35]) (by kernel_rfl) (by kernel_rfl) ?_
          refine ql (.int .i64 ((cntL (clo Ls) : Int) - (cntL Ls : Int))) (by kernel_rfl) (by kernel_rfl) ?_
          refine kb HS [.int .i64 0, .int .i64 0, .slice none 0 0] 46 (fun g => .pointer (some ⟨g, 0, none⟩)) (by kernel_rfl) (by kernel_rfl) ?_
          intro g38 W39 H_
          replace HS : St W M W39 [blk g38 [.int .i64 0, .int .i64 0, .slice none 0 0] 46, row A34 cq36.length c35 (cf actD cq36) 58 2, blk g5 [.int .i64 0, .int .i64 0, .slice none 0 0] 46, blk g3 [.int .i64 kd, .int .i64 r, .int .i64 q] 50, blk g1 [.int .i64 rows, .int .i64 cols, .slice A cs.length c] 46, blk g [.slice R rs.length cr, .int .i64 cols] 87, row R rs.length cr (cf cpt rs) 32 1, many (rsE 77 74 cols rs)] := H_
          clear H_
          refine ks (v := .agg #[.int .i64 rows, .int .i64 cols, .slice A34 cq36.length c35]) HS 0 rfl (0) [.int .i64 rows, .int .i64 cols, .slice A34 cq36.length c35] (by kernel_rfl) (by kernel_rfl) (by kernel_rfl) (by kernel_rfl) (by kernel_rfl) (one_ (by kernel_rfl)) (Nat.le_of_ble_eq_true rfl) rfl ?_
          intro W40 H_
          replace HS : St W M W40 [blk g38 [.int .i64 rows, .int .i64 cols, .slice A34 cq36.length c35] 46, row A34 cq36.length c35 (cf actD cq36) 58 2, blk g5 [.int .i64 0, .int .i64 0, .slice none 0 0] 46, blk g3 [.int .i64 kd, .int .i64 r, .int .i64 q] 50, blk g1 [.int .i64 rows, .int .i64 cols, .slice A cs.length c] 46, blk g [.slice R rs.length cr, .int .i64 cols] 87, row R rs.length cr (cf cpt rs) 32 1, many (rsE 77 74 cols rs)] := H_
          clear H_
          refine ql (.int .i64 ((cntL (clo Ls) : Int) - (cntL Ls : Int))) (by kernel_rfl) (by kernel_rfl) ?_
          refine wpList_nil ?_
          refine x_then ?_
          refine wp_seq ?_
          refine t_start HS (fun k_ => (blk g [.slice R rs.length cr, .int .i64 cols] 87).own k_ ∨ (row R rs.length cr (cf cpt rs) 32 1).own k_ ∨ (many (rsE 77 74 cols rs)).own k_ ∨ (blk g5 [.int .i64 0, .int .i64 0, .slice none 0 0] 46).own k_) 7 (by kernel_rfl) rfl ?_
          intro W41 H_ HD_
          clear HD_
          replace HS : St W M W41 [blk g38 [.int .i64 rows, .int .i64 cols, .slice A34 cq36.length c35] 46, row A34 cq36.length c35 (cf actD cq36) 58 2, blk g5 [.int .i64 0, .int .i64 0, .slice none 0 0] 46, blk g3 [.int .i64 kd, .int .i64 r, .int .i64 q] 50, blk g1 [.int .i64 rows, .int .i64 cols, .slice A cs.length c] 46, blk g [.slice R rs.length cr, .int .i64 cols] 87, row R rs.length cr (cf cpt rs) 32 1, many (rsE 77 74 cols rs)] := H_
          clear H_
          have HV := HS
          have HK := Kpt.refl (fun k_ => (blk g [.slice R rs.length cr, .int .i64 cols] 87).own k_ ∨ (row R rs.length cr (cf cpt rs) 32 1).own k_ ∨ (many (rsE 77 74 cols rs)).own k_ ∨ (blk g5 [.int .i64 0, .int .i64 0, .slice none 0 0] 46).own k_) W41
          refine t_q (n := 6) 0 (.agg #[.int .i64 rows, .int .i64 cols, .slice A34 cq36.length c35]) rfl (by kernel_rfl) (by kernel_rfl) (fun _ _ _ h => h) (fun w' hk => (R_loadN (p := ⟨g38, 0, none⟩) [.int .i64 rows, .int .i64 cols, .slice A34 cq36.length c35] (by kernel_rfl) (by kernel_rfl) (by kernel_rfl) (by kernel_rfl) (three_at (hk.cellN (fun h_ => h_.elim (HV.sepB (a := 0) (b := 5) (by decide) rfl rfl) (fun h_ => h_.elim (HV.sepB (a := 0) (b := 6) (by decide) rfl rfl) (fun h_ => h_.elim (HV.sepB (a := 0) (b := 7) (by decide) rfl rfl) (HV.sepB (a := 0) (b := 2) (by decide) rfl rfl)))) (HV.cell (i := 0) (j := 0) rfl rfl)) (hk.cellN (fun h_ => h_.elim (HV.sepB (a := 0) (b := 5) (by decide) rfl rfl) (fun h_ => h_.elim (HV.sepB (a := 0) (b := 6) (by decide) rfl rfl) (fun h_ => h_.elim (HV.sepB (a := 0) (b := 7) (by decide) rfl rfl) (HV.sepB (a := 0) (b := 2) (by decide) rfl rfl)))) (HV.cell (i := 0) (j := 1) rfl rfl)) (hk.cellN (fun h_ => h_.elim (HV.sepB (a := 0) (b := 5) (by decide) rfl rfl) (fun h_ => h_.elim (HV.sepB (a := 0) (b := 6) (by decide) rfl rfl) (fun h_ => h_.elim (HV.sepB (a := 0) (b := 7) (by decide) rfl rfl) (HV.sepB (a := 0) (b := 2) (by decide) rfl rfl)))) (HV.cell (i := 0) (j := 2) rfl rfl))))) HK ?_
          refine t_q (n := 5) 1 (.pointer (some ⟨g, 0, none⟩)) rfl (by kernel_rfl) (by kernel_rfl) (fun _ _ _ h => h) (fun w' hk => (by kernel_rfl)) HK ?_
          refine t_q (n := 4) 3 (.int .i64 ((cntL (clo Ls) : Int) - (cntL Ls : Int))) rfl (by kernel_rfl) (by kernel_rfl) (fun _ _ _ h => h) (fun w' hk => (by kernel_rfl)) HK ?_
          refine t_c (n := 3) 2 (f := 37) (args := #[.pointer (some ⟨g, 0, none⟩)]) rfl (by kernel_rfl) (by kernel_rfl) (R_call #[.pointer (some ⟨g, 0, none⟩)] Tryd.func37 (by kernel_rfl) (by kernel_rfl) (by kernel_rfl)) ?_
          replace HS : St W M W41 [blk g [.slice R rs.length cr, .int .i64 cols] 87, row R rs.length cr (cf cpt rs) 32 1, many (rsE 77 74 cols rs), blk g38 [.int .i64 rows, .int .i64 cols, .slice A34 cq36.length c35] 46, row A34 cq36.length c35 (cf actD cq36) 58 2, blk g5 [.int .i64 0, .int .i64 0, .slice none 0 0] 46, blk g3 [.int .i64 kd, .int .i64 r, .int .i64 q] 50, blk g1 [.int .i64 rows, .int .i64 cols, .slice A cs.length c] 46] := HS.perm (perm_ [5, 6, 7, 0, 1, 2, 3, 4] (by kernel_rfl) rfl)
          refine (mclose g cr R cols rs Ls _ _ (St.focus (F := [blk g [.slice R rs.length cr, .int .i64 cols] 87, row R rs.length cr (cf cpt rs) 32 1, many (rsE 77 74 cols rs)]) HS) hR (by omega) (by omega) (by omega)).mono ?_
          rintro e W44 ⟨rs42, rfl, H_, hR43, hlrs42⟩
          have hkf_ : ∀ k_, owns [blk g [.slice R rs.length cr, .int .i64 cols] 87, row R rs.length cr (cf cpt rs) 32 1, many (rsE 77 74 cols rs)] k_ → (blk g [.slice R rs.length cr, .int .i64 cols] 87).own k_ ∨ (row R rs.length cr (cf cpt rs) 32 1).own k_ ∨ (many (rsE 77 74 cols rs)).own k_ ∨ (blk g5 [.int .i64 0, .int .i64 0, .slice none 0 0] 46).own k_ := by
            intro k_ h_; obtain ⟨e_, he_, ho_⟩ := h_; simp only [List.mem_cons, List.not_mem_nil, or_false] at he_; rcases he_ with rfl | rfl | rfl <;> first | exact (.inl ho_) | exact (.inr (.inl ho_)) | exact (.inr (.inr (.inl ho_))) | exact (.inr (.inr (.inr ho_)))
          refine ⟨_, rfl, HK.trans H_.kept (fun _ h_ => .inl (hkf_ _ h_)), ?_⟩
          replace HK := HK.trans H_.kept (fun _ h_ => .inl (hkf_ _ h_))
          replace HS : St W M W44 [blk g [.slice R rs42.length cr, .int .i64 cols] 87, row R rs42.length cr (cf cpt rs42) 32 1, many (rsE 77 74 cols rs42), blk g38 [.int .i64 rows, .int .i64 cols, .slice A34 cq36.length c35] 46, row A34 cq36.length c35 (cf actD cq36) 58 2, blk g5 [.int .i64 0, .int .i64 0, .slice none 0 0] 46, blk g3 [.int .i64 kd, .int .i64 r, .int .i64 q] 50, blk g1 [.int .i64 rows, .int .i64 cols, .slice A cs.length c] 46] := HS.join (F := [blk g [.slice R rs.length cr, .int .i64 cols] 87, row R rs.length cr (cf cpt rs) 32 1, many (rsE 77 74 cols rs)]) (G := [blk g [.slice R rs42.length cr, .int .i64 cols] 87, row R rs42.length cr (cf cpt rs42) 32 1, many (rsE 77 74 cols rs42)]) H_
          clear H_
          refine t_q (n := 2) 4 (.bool true) rfl (by kernel_rfl) (by kernel_rfl) (fun _ _ _ h => h) (fun w' hk => (R_beq (b := (((cntL (clo Ls) : Int) - (cntL Ls : Int)) == ((cntL (clo Ls) : Int) - (cntL Ls : Int)))) (by kernel_rfl) (beq_t (by omega)))) HK ?_
          obtain ⟨W45, hrun_, H_, hk_⟩ := ex_ks (P := Tryd.prog) (ty := 0) (ps := "law.go:29") (af := #[{ on := 0, ground := Go.Ground.data }, { on := 2, ground := Go.Ground.chain }, { on := 0, ground := Go.Ground.phase }, { on := 1, ground := (Go.Ground.textOnly Go.Departure.lateStores) }, { on := 2, ground := (Go.Ground.textOnly Go.Departure.lateStoresUnsure) }, { on := 3, ground := (Go.Ground.textOnly Go.Departure.lateStores) }, { on := 4, ground := (Go.Ground.textOnly Go.Departure.lateStores) }]) (gd := none) (t := 46) (x := (Go.Operand.tmp 6)) (y := (Go.Operand.tmp 63)) (v := .agg #[.int .i64 rows, .int .i64 cols, .slice A34 cq36.length c35]) HS 5 rfl (0) [.int .i64 rows, .int .i64 cols, .slice A34 cq36.length c35] (by kernel_rfl) (by kernel_rfl) (by kernel_rfl) (by kernel_rfl) (one_ (by kernel_rfl)) (Nat.le_of_ble_eq_true rfl)
          replace HK := HK.trans hk_ (fun _ h_ => .inl (.inr (.inr (.inr (blk_own h_)))))
          refine t_s (n := 1) 5 rfl (by kernel_rfl) (by kernel_rfl) hrun_ HK ?_
          clear hk_ hrun_
          replace HS : St W M W45 [blk g [.slice R rs42.length cr, .int .i64 cols] 87, row R rs42.length cr (cf cpt rs42) 32 1, many (rsE 77 74 cols rs42), blk g38 [.int .i64 rows, .int .i64 cols, .slice A34 cq36.length c35] 46, row A34 cq36.length c35 (cf actD cq36) 58 2, blk g5 [.int .i64 rows, .int .i64 cols, .slice A34 cq36.length c35] 46, blk g3 [.int .i64 kd, .int .i64 r, .int .i64 q] 50, blk g1 [.int .i64 rows, .int .i64 cols, .slice A cs.length c] 46] := H_
          clear H_
          refine t_q (n := 0) 6 (.bool true) rfl (by kernel_rfl) (by kernel_rfl) (fun _ _ _ h => h) (fun w' hk => (by kernel_rfl)) HK ?_
          refine t_done (by kernel_rfl) ?_
          clear HV HK
          refine x_then ?_
          refine wp_ret ?_
          refine x_inbR ?_
          refine x_thenR ?_
          refine ret_ (.tuple #[.agg #[.int .i64 rows, .int .i64 cols, .slice A34 cq36.length c35], .bool true]) (res2 rfl (oneRes_agg (p := ⟨g5, 0, none⟩) [.int .i64 rows, .int .i64 cols, .slice A34 cq36.length c35] (by kernel_rfl) (by kernel_rfl) (by kernel_rfl) (by kernel_rfl) (HS.cellsN (i := 5) rfl)) (oneRes_t (by kernel_rfl))) ?_
          replace HS : St W M W45 [blk g [.slice R rs42.length cr, .int .i64 cols] 87, row R rs42.length cr (cf cpt rs42) 32 1, many (rsE 77 74 cols rs42), row A34 cq36.length c35 (cf actD cq36) 58 2] := St.tail (F := [blk g38 [.int .i64 rows, .int .i64 cols, .slice A34 cq36.length c35] 46, blk g5 [.int .i64 rows, .int .i64 cols, .slice A34 cq36.length c35] 46, blk g3 [.int .i64 kd, .int .i64 r, .int .i64 q] 50, blk g1 [.int .i64 rows, .int .i64 cols, .slice A cs.length c] 46]) (HS.perm (perm_ [3, 5, 6, 7, 0, 1, 2, 4] (by kernel_rfl) rfl))
          exact ⟨rs42, A34, c35, cq36, (clo Ls), rfl, HS, hR43, hMn, by omega⟩
        · skip
          replace HS : St W M W6 [row A cs.length c (cf actD cs) 58 2, blk g5 [.int .i64 0, .int .i64 0, .slice none 0 0] 46, blk g3 [.int .i64 kd, .int .i64 r, .int .i64 q] 50, blk g1 [.int .i64 rows, .int .i64 cols, .slice A cs.length c] 46, blk g [.slice R rs.length cr, .int .i64 cols] 87, row R rs.length cr (cf cpt rs) 32 1, many (rsE 77 74 cols rs)] := HS.perm (perm_ [6, 0, 1, 2, 3, 4, 5] (by kernel_rfl) rfl)
          refine (c6closen A c cs rows cols _ _ (St.focus (F := [row A cs.length c (cf actD cs) 58 2]) HS) (by omega) hsq).mono ?_
          rintro e W46 ⟨rfl, H_⟩
          refine ⟨_, rfl, ?_⟩
          replace HS : St W M W46 [row A cs.length c (cf actD cs) 58 2, blk g5 [.int .i64 0, .int .i64 0, .slice none 0 0] 46, blk g3 [.int .i64 kd, .int .i64 r, .int .i64 q] 50, blk g1 [.int .i64 rows, .int .i64 cols, .slice A cs.length c] 46, blk g [.slice R rs.length cr, .int .i64 cols] 87, row R rs.length cr (cf cpt rs) 32 1, many (rsE 77 74 cols rs)] := HS.join (F := [row A cs.length c (cf actD cs) 58 2]) (G := [row A cs.length c (cf actD cs) 58 2]) H_
          clear H_
          refine ql (.tuple #[.agg #[.int .i64 rows, .int .i64 cols, .slice A cs.length c], .int .i64 0]) (by kernel_rfl) (by kernel_rfl) ?_
          refine ql (.agg #[.int .i64 rows, .int .i64 cols, .slice A cs.length c]) (by kernel_rfl) (by kernel_rfl) ?_
          refine ql (.int .i64 0) (by kernel_rfl) (by kernel_rfl) ?_
          refine kb HS [.int .i64 0, .int .i64 0, .slice none 0 0] 46 (fun g => .pointer (some ⟨g, 0, none⟩)) (by kernel_rfl) (by kernel_rfl) ?_
          intro g47 W48 H_
          replace HS : St W M W48 [blk g47 [.int .i64 0, .int .i64 0, .slice none 0 0] 46, row A cs.length c (cf actD cs) 58 2, blk g5 [.int .i64 0, .int .i64 0, .slice none 0 0] 46, blk g3 [.int .i64 kd, .int .i64 r, .int .i64 q] 50, blk g1 [.int .i64 rows, .int .i64 cols, .slice A cs.length c] 46, blk g [.slice R rs.length cr, .int .i64 cols] 87, row R rs.length cr (cf cpt rs) 32 1, many (rsE 77 74 cols rs)] := H_
          clear H_
          refine ks (v := .agg #[.int .i64 rows, .int .i64 cols, .slice A cs.length c]) HS 0 rfl (0) [.int .i64 rows, .int .i64 cols, .slice A cs.length c] (by kernel_rfl) (by kernel_rfl) (by kernel_rfl) (by kernel_rfl) (by kernel_rfl) (one_ (by kernel_rfl)) (Nat.le_of_ble_eq_true rfl) rfl ?_
          intro W49 H_
          replace HS : St W M W49 [blk g47 [.int .i64 rows, .int .i64 cols, .slice A cs.length c] 46, row A cs.length c (cf actD cs) 58 2, blk g5 [.int .i64 0, .int .i64 0, .slice none 0 0] 46, blk g3 [.int .i64 kd, .int .i64 r, .int .i64 q] 50, blk g1 [.int .i64 rows, .int .i64 cols, .slice A cs.length c] 46, blk g [.slice R rs.length cr, .int .i64 cols] 87, row R rs.length cr (cf cpt rs) 32 1, many (rsE 77 74 cols rs)] := H_
          clear H_
          refine ql (.int .i64 0) (by kernel_rfl) (by kernel_rfl) ?_
          refine wpList_nil ?_
          refine x_then ?_
          refine wp_seq ?_
          refine t_start HS (fun k_ => (blk g [.slice R rs.length cr, .int .i64 cols] 87).own k_ ∨ (row R rs.length cr (cf cpt rs) 32 1).own k_ ∨ (many (rsE 77 74 cols rs)).own k_ ∨ (blk g5 [.int .i64 0, .int .i64 0, .slice none 0 0] 46).own k_) 7 (by kernel_rfl) rfl ?_
          intro W50 H_ HD_
          clear HD_
          replace HS : St W M W50 [blk g47 [.int .i64 rows, .int .i64 cols, .slice A cs.length c] 46, row A cs.length c (cf actD cs) 58 2, blk g5 [.int .i64 0, .int .i64 0, .slice none 0 0] 46, blk g3 [.int .i64 kd, .int .i64 r, .int .i64 q] 50, blk g1 [.int .i64 rows, .int .i64 cols, .slice A cs.length c] 46, blk g [.slice R rs.length cr, .int .i64 cols] 87, row R rs.length cr (cf cpt rs) 32 1, many (rsE 77 74 cols rs)] := H_
          clear H_
          have HV := HS
          have HK := Kpt.refl (fun k_ => (blk g [.slice R rs.length cr, .int .i64 cols] 87).own k_ ∨ (row R rs.length cr (cf cpt rs) 32 1).own k_ ∨ (many (rsE 77 74 cols rs)).own k_ ∨ (blk g5 [.int .i64 0, .int .i64 0, .slice none 0 0] 46).own k_) W50
          refine t_q (n := 6) 0 (.agg #[.int .i64 rows, .int .i64 cols, .slice A cs.length c]) rfl (by kernel_rfl) (by kernel_rfl) (fun _ _ _ h => h) (fun w' hk => (R_loadN (p := ⟨g47, 0, none⟩) [.int .i64 rows, .int .i64 cols, .slice A cs.length c] (by kernel_rfl) (by kernel_rfl) (by kernel_rfl) (by kernel_rfl) (three_at (hk.cellN (fun h_ => h_.elim (HV.sepB (a := 0) (b := 5) (by decide) rfl rfl) (fun h_ => h_.elim (HV.sepB (a := 0) (b := 6) (by decide) rfl rfl) (fun h_ => h_.elim (HV.sepB (a := 0) (b := 7) (by decide) rfl rfl) (HV.sepB (a := 0) (b := 2) (by decide) rfl rfl)))) (HV.cell (i := 0) (j := 0) rfl rfl)) (hk.cellN (fun h_ => h_.elim (HV.sepB (a := 0) (b := 5) (by decide) rfl rfl) (fun h_ => h_.elim (HV.sepB (a := 0) (b := 6) (by decide) rfl rfl) (fun h_ => h_.elim (HV.sepB (a := 0) (b := 7) (by decide) rfl rfl) (HV.sepB (a := 0) (b := 2) (by decide) rfl rfl)))) (HV.cell (i := 0) (j := 1) rfl rfl)) (hk.cellN (fun h_ => h_.elim (HV.sepB (a := 0) (b := 5) (by decide) rfl rfl) (fun h_ => h_.elim (HV.sepB (a := 0) (b := 6) (by decide) rfl rfl) (fun h_ => h_.elim (HV.sepB (a := 0) (b := 7) (by decide) rfl rfl) (HV.sepB (a := 0) (b := 2) (by decide) rfl rfl)))) (HV.cell (i := 0) (j := 2) rfl rfl))))) HK ?_
          refine t_q (n := 5) 1 (.pointer (some ⟨g, 0, none⟩)) rfl (by kernel_rfl) (by kernel_rfl) (fun _ _ _ h => h) (fun w' hk => (by kernel_rfl)) HK ?_
          refine t_q (n := 4) 3 (.int .i64 0) rfl (by kernel_rfl) (by kernel_rfl) (fun _ _ _ h => h) (fun w' hk => (by kernel_rfl)) HK ?_
          refine t_c (n := 3) 2 (f := 37) (args := #[.pointer (some ⟨g, 0, none⟩)]) rfl (by kernel_rfl) (by kernel_rfl) (R_call #[.pointer (some ⟨g, 0, none⟩)] Tryd.func37 (by kernel_rfl) (by kernel_rfl) (by kernel_rfl)) ?_
          replace HS : St W M W50 [blk g [.slice R rs.length cr, .int .i64 cols] 87, row R rs.length cr (cf cpt rs) 32 1, many (rsE 77 74 cols rs), blk g47 [.int .i64 rows, .int .i64 cols, .slice A cs.length c] 46, row A cs.length c (cf actD cs) 58 2, blk g5 [.int .i64 0, .int .i64 0, .slice none 0 0] 46, blk g3 [.int .i64 kd, .int .i64 r, .int .i64 q] 50, blk g1 [.int .i64 rows, .int .i64 cols, .slice A cs.length c] 46] := HS.perm (perm_ [5, 6, 7, 0, 1, 2, 3, 4] (by kernel_rfl) rfl)
          refine (mclose_ne g cr R cols rs Ls _ _ (St.focus (F := [blk g [.slice R rs.length cr, .int .i64 cols] 87, row R rs.length cr (cf cpt rs) 32 1, many (rsE 77 74 cols rs)]) HS) hR (by omega) (by omega) (by omega)).mono ?_
          rintro e W51 ⟨rfl, H_⟩
          have hkf_ : ∀ k_, owns [blk g [.slice R rs.length cr, .int .i64 cols] 87, row R rs.length cr (cf cpt rs) 32 1, many (rsE 77 74 cols rs)] k_ → (blk g [.slice R rs.length cr, .int .i64 cols] 87).own k_ ∨ (row R rs.length cr (cf cpt rs) 32 1).own k_ ∨ (many (rsE 77 74 cols rs)).own k_ ∨ (blk g5 [.int .i64 0, .int .i64 0, .slice none 0 0] 46).own k_ := by
            intro k_ h_; obtain ⟨e_, he_, ho_⟩ := h_; simp only [List.mem_cons, List.not_mem_nil, or_false] at he_; rcases he_ with rfl | rfl | rfl <;> first | exact (.inl ho_) | exact (.inr (.inl ho_)) | exact (.inr (.inr (.inl ho_))) | exact (.inr (.inr (.inr ho_)))
          refine ⟨_, rfl, HK.trans H_.kept (fun _ h_ => .inl (hkf_ _ h_)), ?_⟩
          replace HK := HK.trans H_.kept (fun _ h_ => .inl (hkf_ _ h_))
          replace HS : St W M W51 [blk g [.slice R rs.length cr, .int .i64 cols] 87, row R rs.length cr (cf cpt rs) 32 1, many (rsE 77 74 cols rs), blk g47 [.int .i64 rows, .int .i64 cols, .slice A cs.length c] 46, row A cs.length c (cf actD cs) 58 2, blk g5 [.int .i64 0, .int .i64 0, .slice none 0 0] 46, blk g3 [.int .i64 kd, .int .i64 r, .int .i64 q] 50, blk g1 [.int .i64 rows, .int .i64 cols, .slice A cs.length c] 46] := HS.join (F := [blk g [.slice R rs.length cr, .int .i64 cols] 87, row R rs.length cr (cf cpt rs) 32 1, many (rsE 77 74 cols rs)]) (G := [blk g [.slice R rs.length cr, .int .i64 cols] 87, row R rs.length cr (cf cpt rs) 32 1, many (rsE 77 74 cols rs)]) H_
          clear H_
          refine t_q (n := 2) 4 (.bool true) rfl (by kernel_rfl) (by kernel_rfl) (fun _ _ _ h => h) (fun w' hk => (R_beq (b := ((0 : Int) == 0)) (by kernel_rfl) (by decide))) HK ?_
          obtain ⟨W52, hrun_, H_, hk_⟩ := ex_ks (P := Tryd.prog) (ty := 0) (ps := "law.go:29") (af := #[{ on := 0, ground := Go.Ground.data }, { on := 2, ground := Go.Ground.chain }, { on := 0, ground := Go.Ground.phase }, { on := 1, ground := (Go.Ground.textOnly Go.Departure.lateStores) }, { on := 2, ground := (Go.Ground.textOnly Go.Departure.lateStoresUnsure) }, { on := 3, ground := (Go.Ground.textOnly Go.Departure.lateStores) }, { on := 4, ground := (Go.Ground.textOnly Go.Departure.lateStores) }]) (gd := none) (t := 46) (x := (Go.Operand.tmp 6)) (y := (Go.Operand.tmp 63)) (v := .agg #[.int .i64 rows, .int .i64 cols, .slice A cs.length c]) HS 5 rfl (0) [.int .i64 rows, .int .i64 cols, .slice A cs.length c] (by kernel_rfl) (by kernel_rfl) (by kernel_rfl) (by kernel_rfl) (one_ (by kernel_rfl)) (Nat.le_of_ble_eq_true rfl)
          replace HK := HK.trans hk_ (fun _ h_ => .inl (.inr (.inr (.inr (blk_own h_)))))
          refine t_s (n := 1) 5 rfl (by kernel_rfl) (by kernel_rfl) hrun_ HK ?_
          clear hk_ hrun_
          replace HS : St W M W52 [blk g [.slice R rs.length cr, .int .i64 cols] 87, row R rs.length cr (cf cpt rs) 32 1, many (rsE 77 74 cols rs), blk g47 [.int .i64 rows, .int .i64 cols, .slice A cs.length c] 46, row A cs.length c (cf actD cs) 58 2, blk g5 [.int .i64 rows, .int .i64 cols, .slice A cs.length c] 46, blk g3 [.int .i64 kd, .int .i64 r, .int .i64 q] 50, blk g1 [.int .i64 rows, .int .i64 cols, .slice A cs.length c] 46] := H_
          clear H_
          refine t_q (n := 0) 6 (.bool true) rfl (by kernel_rfl) (by kernel_rfl) (fun _ _ _ h => h) (fun w' hk => (by kernel_rfl)) HK ?_
          refine t_done (by kernel_rfl) ?_
          clear HV HK
          refine x_then ?_
          refine wp_ret ?_
          refine x_inbR ?_
          refine x_thenR ?_
          refine ret_ (.tuple #[.agg #[.int .i64 rows, .int .i64 cols, .slice A cs.length c], .bool true]) (res2 rfl (oneRes_agg (p := ⟨g5, 0, none⟩) [.int .i64 rows, .int .i64 cols, .slice A cs.length c] (by kernel_rfl) (by kernel_rfl) (by kernel_rfl) (by kernel_rfl) (HS.cellsN (i := 5) rfl)) (oneRes_t (by kernel_rfl))) ?_
          replace HS : St W M W52 [blk g [.slice R rs.length cr, .int .i64 cols] 87, row R rs.length cr (cf cpt rs) 32 1, many (rsE 77 74 cols rs), row A cs.length c (cf actD cs) 58 2] := St.tail (F := [blk g47 [.int .i64 rows, .int .i64 cols, .slice A cs.length c] 46, blk g5 [.int .i64 rows, .int .i64 cols, .slice A cs.length c] 46, blk g3 [.int .i64 kd, .int .i64 r, .int .i64 q] 50, blk g1 [.int .i64 rows, .int .i64 cols, .slice A cs.length c] 46]) (HS.perm (perm_ [3, 5, 6, 7, 0, 1, 2, 4] (by kernel_rfl) rfl))
          exact ⟨rs, A, c, cs, Ls, rfl, HS, hR, hMC, by omega⟩
      · skip
        refine ql (.bool false) (by kernel_rfl) (R_beq (b := (kd == (2 : Int))) (by kernel_rfl) (beq_f (hc33))) ?_
        refine ql (.bool false) (by kernel_rfl) (by kernel_rfl) ?_
        refine wpList_nil ?_
        refine x_then ?_
        refine wp_cond_false (by kernel_rfl) ?_
        refine wp_skip ?_
        refine x_inb ?_
        refine x_then ?_
        refine wp_seq ?_
        refine wp_region_lit ?_
        refine ql (.agg #[.int .i64 rows, .int .i64 cols, .slice A cs.length c]) (by kernel_rfl) (R_loadN (p := ⟨g1, 0, none⟩) [.int .i64 rows, .int .i64 cols, .slice A cs.length c] (by kernel_rfl) (by kernel_rfl) (by kernel_rfl) (by kernel_rfl) (three_at (HS.cell (i := 2) (j := 0) rfl rfl) (HS.cell (i := 2) (j := 1) rfl rfl) (HS.cell (i := 2) (j := 2) rfl rfl))) ?_
        refine ks (v := .agg #[.int .i64 rows, .int .i64 cols, .slice A cs.length c]) HS 0 rfl (0) [.int .i64 rows, .int .i64 cols, .slice A cs.length c] (by kernel_rfl) (by kernel_rfl) (by kernel_rfl) (by kernel_rfl) (by kernel_rfl) (one_ (by kernel_rfl)) (Nat.le_of_ble_eq_true rfl) rfl ?_
        intro W53 H_
        replace HS : St W M W53 [blk g5 [.int .i64 rows, .int .i64 cols, .slice A cs.length c] 46, blk g3 [.int .i64 kd, .int .i64 r, .int .i64 q] 50, blk g1 [.int .i64 rows, .int .i64 cols, .slice A cs.length c] 46, blk g [.slice R rs.length cr, .int .i64 cols] 87, row R rs.length cr (cf cpt rs) 32 1, many (rsE 77 74 cols rs), row A cs.length c (cf actD cs) 58 2] := H_
        clear H_
        refine ql (.bool true) (by kernel_rfl) (by kernel_rfl) ?_
        refine wpList_nil ?_
        refine x_then ?_
        refine wp_ret ?_
        refine ret_ (.tuple #[.agg #[.int .i64 rows, .int .i64 cols, .slice A cs.length c], .bool true]) (res2 rfl (oneRes_agg (p := ⟨g5, 0, none⟩) [.int .i64 rows, .int .i64 cols, .slice A cs.length c] (by kernel_rfl) (by kernel_rfl) (by kernel_rfl) (by kernel_rfl) (HS.cellsN (i := 0) rfl)) (oneRes_t (by kernel_rfl))) ?_
        replace HS := HS.drop1
        replace HS := HS.drop1
        replace HS := HS.drop1
        exact ⟨rs, A, c, cs, Ls, rfl, HS, hR, hMC, by omega⟩

set_option maxRecDepth 100000 in
set_option maxHeartbeats 1000000 in
theorem lMatrixPlays (rows cols : Int) (Al : Option Addr) (cl : Nat) (l : List (Int × Int × Int)) (r c : Int) (W : World) (hra : Rd W Al (cf actT l)) (hT : TabAt64 W) : Calls Tryd.prog 5 #[.int .i64 rows, .int .i64 cols, .slice Al l.length cl, .int .i64 r, .int .i64 c] W fun e W' => e = .returned (.bool true) ∧ St W (owns []) W' [] := by
  have HS : St W (owns []) W [] := St.start W _
  refine calls_enter ((.int .i64 rows) :: (.int .i64 cols) :: (.slice Al l.length cl) :: (.int .i64 r) :: (.int .i64 c) :: undef :: undef :: undef :: undef :: undef :: undef :: undef :: undef :: undef :: undef :: undef :: undef :: undef :: undef :: undef :: undef :: undef :: undef :: undef :: undef :: undef :: undef :: undef :: undef :: undef :: undef :: undef :: undef :: undef :: undef :: undef :: undef :: undef :: undef :: undef :: undef :: undef :: undef :: undef :: undef :: undef :: undef :: undef :: undef :: undef :: undef :: undef :: undef :: undef :: undef :: undef :: undef :: undef :: undef :: undef :: undef :: undef :: undef :: undef :: undef :: undef :: undef :: undef :: undef :: undef :: undef :: undef :: undef :: undef :: undef :: undef :: undef :: undef :: undef :: undef :: undef :: undef :: undef :: undef :: undef :: undef :: undef :: undef :: undef :: undef :: undef :: undef :: undef :: undef :: undef :: undef :: undef :: undef :: undef :: undef :: undef :: undef :: undef :: undef :: undef :: undef :: undef :: undef :: undef :: undef :: undef :: undef :: undef :: undef :: undef :: undef :: undef :: undef :: undef :: undef :: undef :: undef :: undef :: undef :: undef :: undef :: undef :: undef :: undef :: undef :: undef :: undef :: undef :: undef :: undef :: undef :: undef :: undef :: undef :: undef :: undef :: undef :: undef :: undef :: undef :: undef :: undef :: undef :: undef :: undef :: undef :: undef :: undef :: []) Tryd.func5 rfl (by kernel_rfl) ?_
  refine wp_seq ?_
  refine wp_region_lit ?_
  refine ql (.bool false) (by kernel_rfl) (by kernel_rfl) ?_
  refine wpList_nil ?_
  refine x_then ?_
  refine wp_seq ?_
  refine wp_seq ?_
  refine wp_region_lit ?_
  refine ql (.slice Al l.length cl) (by kernel_rfl) (by kernel_rfl) ?_
  refine ql (.int .i64 (l.length : Int)) (by kernel_rfl) (by kernel_rfl) ?_
  by_cases hc1 : (l.length : Int) > (20 : Int)
  · skip
    refine ql (.bool true) (by kernel_rfl) (R_bool (p := (l.length : Int) > (20 : Int)) (by kernel_rfl) (hc1)) ?_
    refine ql (.bool true) (by kernel_rfl) (by kernel_rfl) ?_
    refine qln (by kernel_rfl) ?_
    refine qln (by kernel_rfl) ?_
    refine qln (by kernel_rfl) ?_
    refine qln (by kernel_rfl) ?_
    refine qln (by kernel_rfl) ?_
    refine qln (by kernel_rfl) ?_
    refine ql (.bool true) (by kernel_rfl) (by kernel_rfl) ?_
    refine ql (.bool true) (by kernel_rfl) (by kernel_rfl) ?_
    refine qln (by kernel_rfl) ?_
    refine qln (by kernel_rfl) ?_
    refine qln (by kernel_rfl) ?_
    refine qln (by kernel_rfl) ?_
    refine qln (by kernel_rfl) ?_
    refine qln (by kernel_rfl) ?_
    refine ql (.bool true) (by kernel_rfl) (by kernel_rfl) ?_
    refine wpList_nil ?_
    refine x_then ?_
    refine wp_cond_true (by kernel_rfl) ?_
    refine wp_seq ?_
    refine wp_region_lit ?_
    refine qc (f := 23) (args := #[]) (by kernel_rfl) (R_call #[] Tryd.func23 (by kernel_rfl) (by kernel_rfl) (by kernel_rfl)) ?_
    refine (mawake _).mono ?_
    rintro e W2 ⟨rfl, H_⟩
    refine ⟨_, rfl, ?_⟩
    replace HS : St W (owns []) W2 [] := HS.join (F := []) (G := []) H_
    clear H_
    refine ql (.bool true) (by kernel_rfl) (by kernel_rfl) ?_
    refine wpList_nil ?_
    refine x_then ?_
    refine wp_ret ?_
    refine x_thenR ?_
    refine ret_ (.bool true) (by kernel_rfl) ?_
    exact ⟨rfl, HS⟩
  · skip
    refine ql (.bool false) (by kernel_rfl) (R_nbool (p := (l.length : Int) > (20 : Int)) (by kernel_rfl) (hc1)) ?_
    refine ql (.bool false) (by kernel_rfl) (by kernel_rfl) ?_
    refine ql (.int .i64 rows) (by kernel_rfl) (by kernel_rfl) ?_
    by_cases hc3 : rows > (12 : Int)
    · skip
      refine ql (.bool true) (by kernel_rfl) (R_bool (p := rows > (12 : Int)) (by kernel_rfl) (hc3)) ?_
      refine ql (.bool true) (by kernel_rfl) (by kernel_rfl) ?_
      refine ql (.int .i64 rows) (by kernel_rfl) (by kernel_rfl) ?_
      by_cases hc4 : rows ≤ (65536 : Int)
      · skip
        refine ql (.bool true) (by kernel_rfl) (R_bool (p := rows ≤ (65536 : Int)) (by kernel_rfl) (hc4)) ?_
        refine ql (.bool true) (by kernel_rfl) (by kernel_rfl) ?_
        refine ql (.bool true) (by kernel_rfl) (by kernel_rfl) ?_
        refine ql (.bool true) (by kernel_rfl) (by kernel_rfl) ?_
        refine qln (by kernel_rfl) ?_
        refine qln (by kernel_rfl) ?_
        refine qln (by kernel_rfl) ?_
        refine qln (by kernel_rfl) ?_
        refine qln (by kernel_rfl) ?_
        refine qln (by kernel_rfl) ?_
        refine ql (.bool true) (by kernel_rfl) (by kernel_rfl) ?_
        refine wpList_nil ?_
        refine x_then ?_
        refine wp_cond_true (by kernel_rfl) ?_
        refine wp_seq ?_
        refine wp_region_lit ?_
        refine qc (f := 23) (args := #[]) (by kernel_rfl) (R_call #[] Tryd.func23 (by kernel_rfl) (by kernel_rfl) (by kernel_rfl)) ?_
        refine (mawake _).mono ?_
        rintro e W5 ⟨rfl, H_⟩
        refine ⟨_, rfl, ?_⟩
        replace HS : St W (owns []) W5 [] := HS.join (F := []) (G := []) H_
        clear H_
        refine ql (.bool true) (by kernel_rfl) (by kernel_rfl) ?_
        refine wpList_nil ?_
        refine x_then ?_
        refine wp_ret ?_
        refine x_thenR ?_
        refine ret_ (.bool true) (by kernel_rfl) ?_
        exact ⟨rfl, HS⟩
      · skip
        refine ql (.bool false) (by kernel_rfl) (R_nbool (p := rows ≤ (65536 : Int)) (by kernel_rfl) (hc4)) ?_
        refine ql (.bool false) (by kernel_rfl) (by kernel_rfl) ?_
        refine ql (.bool false) (by kernel_rfl) (by kernel_rfl) ?_
        refine ql (.bool false) (by kernel_rfl) (by kernel_rfl) ?_
        refine ql (.int .i64 cols) (by kernel_rfl) (by kernel_rfl) ?_
        by_cases hc6 : cols > (12 : Int)
        · skip
          refine ql (.bool true) (by kernel_rfl) (R_bool (p := cols > (12 : Int)) (by kernel_rfl) (hc6)) ?_
          refine ql (.bool true) (by kernel_rfl) (by kernel_rfl) ?_
          refine ql (.int .i64 cols) (by kernel_rfl) (by kernel_rfl) ?_
          by_cases hc7 : cols ≤ (65536 : Int)
          · skip
            refine ql (.bool true) (by kernel_rfl) (R_bool (p := cols ≤ (65536 : Int)) (by kernel_rfl) (hc7)) ?_
            refine ql (.bool true) (by kernel_rfl) (by kernel_rfl) ?_
            refine ql (.bool true) (by kernel_rfl) (by kernel_rfl) ?_
            refine wpList_nil ?_
            refine x_then ?_
            refine wp_cond_true (by kernel_rfl) ?_
            refine wp_seq ?_
            refine wp_region_lit ?_
            refine qc (f := 23) (args := #[]) (by kernel_rfl) (R_call #[] Tryd.func23 (by kernel_rfl) (by kernel_rfl) (by kernel_rfl)) ?_
            refine (mawake _).mono ?_
            rintro e W8 ⟨rfl, H_⟩
            refine ⟨_, rfl, ?_⟩
            replace HS : St W (owns []) W8 [] := HS.join (F := []) (G := []) H_
            clear H_
            refine ql (.bool true) (by kernel_rfl) (by kernel_rfl) ?_
            refine wpList_nil ?_
            refine x_then ?_
            refine wp_ret ?_
            refine x_thenR ?_
            refine ret_ (.bool true) (by kernel_rfl) ?_
            exact ⟨rfl, HS⟩
          · skip
            refine ql (.bool false) (by kernel_rfl) (R_nbool (p := cols ≤ (65536 : Int)) (by kernel_rfl) (hc7)) ?_
            refine ql (.bool false) (by kernel_rfl) (by kernel_rfl) ?_
            refine ql (.bool false) (by kernel_rfl) (by kernel_rfl) ?_
            refine wpList_nil ?_
            refine x_then ?_
            refine wp_cond_false (by kernel_rfl) ?_
            refine wp_skip ?_
            refine x_then ?_
            refine wp_seq ?_
            refine wp_region_lit ?_
            refine ql (.int .i64 rows) (by kernel_rfl) (by kernel_rfl) ?_
            refine ql (.int .i64 cols) (by kernel_rfl) (by kernel_rfl) ?_
            refine qc (f := 24) (args := #[.int .i64 rows, .int .i64 cols]) (by kernel_rfl) (R_call #[.int .i64 rows, .int .i64 cols] Tryd.func24 (by kernel_rfl) (by kernel_rfl) (by kernel_rfl)) ?_
            by_cases hv9 : rows < 0
            · skip
              refine (mnew_arg rows cols _ (by omega)).mono ?_
              rintro e W10 ⟨rfl, H_⟩
              refine ⟨_, rfl, ?_⟩
              replace HS : St W (owns []) W10 [] := HS.join (F := []) (G := []) H_
              clear H_
              refine ql (.tuple #[.pointer none, .int .i64 2]) (by kernel_rfl) (by kernel_rfl) ?_
              refine ql (.pointer none) (by kernel_rfl) (by kernel_rfl) ?_
              refine ql (.int .i64 2) (by kernel_rfl) (by kernel_rfl) ?_
              refine ql (.pointer none) (by kernel_rfl) (by kernel_rfl) ?_
              refine ql (.int .i64 2) (by kernel_rfl) (by kernel_rfl) ?_
              refine wpList_nil ?_
              refine x_then ?_
              refine wp_seq ?_
              refine wp_seq ?_
              refine wp_region_lit ?_
              refine ql (.int .i64 rows) (by kernel_rfl) (by kernel_rfl) ?_
              refine ql (.bool true) (by kernel_rfl) (R_bool (p := rows < (0 : Int)) (by kernel_rfl) (by omega)) ?_
              refine ql (.bool true) (by kernel_rfl) (by kernel_rfl) ?_
              refine qln (by kernel_rfl) ?_
              refine qln (by kernel_rfl) ?_
              refine ql (.bool true) (by kernel_rfl) (by kernel_rfl) ?_
              refine wpList_nil ?_
              refine x_then ?_
              refine wp_cond_true (by kernel_rfl) ?_
              refine wp_seq ?_
              refine wp_region_lit ?_
              refine ql (.pointer none) (by kernel_rfl) (by kernel_rfl) ?_
              refine ql (.bool true) (by kernel_rfl) (by kernel_rfl) ?_
              refine ql (.bool true) (by kernel_rfl) (by kernel_rfl) ?_
              refine ql (.int .i64 2) (by kernel_rfl) (by kernel_rfl) ?_
              refine ql (.bool true) (by kernel_rfl) (R_beq (b := ((2 : Int) == 2)) (by kernel_rfl) (by decide)) ?_
              refine ql (.bool true) (by kernel_rfl) (by kernel_rfl) ?_
              refine ql (.bool true) (by kernel_rfl) (by kernel_rfl) ?_
              refine qc (f := 23) (args := #[]) (by kernel_rfl) (R_call #[] Tryd.func23 (by kernel_rfl) (by kernel_rfl) (by kernel_rfl)) ?_
              refine (mawake _).mono ?_
              rintro e W11 ⟨rfl, H_⟩
              refine ⟨_, rfl, ?_⟩
              replace HS : St W (owns []) W11 [] := HS.join (F := []) (G := []) H_
              clear H_
              refine ql (.bool true) (by kernel_rfl) (by kernel_rfl) ?_
              refine ql (.bool true) (by kernel_rfl) (by kernel_rfl) ?_
              refine wpList_nil ?_
              refine x_then ?_
              refine wp_ret ?_
              refine x_thenR ?_
              refine ret_ (.bool true) (by kernel_rfl) ?_
              exact ⟨rfl, HS⟩
            · skip
              by_cases hv12 : cols < 0
              · skip
                refine (mnew_arg rows cols _ (by omega)).mono ?_
                rintro e W13 ⟨rfl, H_⟩
                refine ⟨_, rfl, ?_⟩
                replace HS : St W (owns []) W13 [] := HS.join (F := []) (G := []) H_
                clear H_
                refine ql (.tuple #[.pointer none, .int .i64 2]) (by kernel_rfl) (by kernel_rfl) ?_
                refine ql (.pointer none) (by kernel_rfl) (by kernel_rfl) ?_
                refine ql (.int .i64 2) (by kernel_rfl) (by kernel_rfl) ?_
                refine ql (.pointer none) (by kernel_rfl) (by kernel_rfl) ?_
                refine ql (.int .i64 2) (by kernel_rfl) (by kernel_rfl) ?_
                refine wpList_nil ?_
                refine x_then ?_
                refine wp_seq ?_
                refine wp_seq ?_
                refine wp_region_lit ?_
                refine ql (.int .i64 rows) (by kernel_rfl) (by kernel_rfl) ?_
                refine ql (.bool false) (by kernel_rfl) (R_nbool (p := rows < (0 : Int)) (by kernel_rfl) (by omega)) ?_
                refine ql (.bool false) (by kernel_rfl) (by kernel_rfl) ?_
                refine ql (.int .i64 cols) (by kernel_rfl) (by kernel_rfl) ?_
                refine ql (.bool true) (by kernel_rfl) (R_bool (p := cols < (0 : Int)) (by kernel_rfl) (by omega)) ?_
                refine ql (.bool true) (by kernel_rfl) (by kernel_rfl) ?_
                refine wpList_nil ?_
                refine x_then ?_
                refine wp_cond_true (by kernel_rfl) ?_
                refine wp_seq ?_
                refine wp_region_lit ?_
                refine ql (.pointer none) (by kernel_rfl) (by kernel_rfl) ?_
                refine ql (.bool true) (by kernel_rfl) (by kernel_rfl) ?_
                refine ql (.bool true) (by kernel_rfl) (by kernel_rfl) ?_
                refine ql (.int .i64 2) (by kernel_rfl) (by kernel_rfl) ?_
                refine ql (.bool true) (by kernel_rfl) (R_beq (b := ((2 : Int) == 2)) (by kernel_rfl) (by decide)) ?_
                refine ql (.bool true) (by kernel_rfl) (by kernel_rfl) ?_
                refine ql (.bool true) (by kernel_rfl) (by kernel_rfl) ?_
                refine qc (f := 23) (args := #[]) (by kernel_rfl) (R_call #[] Tryd.func23 (by kernel_rfl) (by kernel_rfl) (by kernel_rfl)) ?_
                refine (mawake _).mono ?_
                rintro e W14 ⟨rfl, H_⟩
                refine ⟨_, rfl, ?_⟩
                replace HS : St W (owns []) W14 [] := HS.join (F := []) (G := []) H_
                clear H_
                refine ql (.bool true) (by kernel_rfl) (by kernel_rfl) ?_
                refine ql (.bool true) (by kernel_rfl) (by kernel_rfl) ?_
                refine wpList_nil ?_
                refine x_then ?_
                refine wp_ret ?_
                refine x_thenR ?_
                refine ret_ (.bool true) (by kernel_rfl) ?_
                exact ⟨rfl, HS⟩
              · skip
                refine (mnew_over rows cols _ (by omega) (by omega) (by omega)).mono ?_
                rintro e W15 ⟨rfl, H_⟩
                refine ⟨_, rfl, ?_⟩
                replace HS : St W (owns []) W15 [] := HS.join (F := []) (G := []) H_
                clear H_
                refine ql (.tuple #[.pointer none, .int .i64 5]) (by kernel_rfl) (by kernel_rfl) ?_
                refine ql (.pointer none) (by kernel_rfl) (by kernel_rfl) ?_
                refine ql (.int .i64 5) (by kernel_rfl) (by kernel_rfl) ?_
                refine ql (.pointer none) (by kernel_rfl) (by kernel_rfl) ?_
                refine ql (.int .i64 5) (by kernel_rfl) (by kernel_rfl) ?_
                refine wpList_nil ?_
                refine x_then ?_
                refine wp_seq ?_
                refine wp_seq ?_
                refine wp_region_lit ?_
                refine ql (.int .i64 rows) (by kernel_rfl) (by kernel_rfl) ?_
                refine ql (.bool false) (by kernel_rfl) (R_nbool (p := rows < (0 : Int)) (by kernel_rfl) (by omega)) ?_
                refine ql (.bool false) (by kernel_rfl) (by kernel_rfl) ?_
                refine ql (.int .i64 cols) (by kernel_rfl) (by kernel_rfl) ?_
                refine ql (.bool false) (by kernel_rfl) (R_nbool (p := cols < (0 : Int)) (by kernel_rfl) (by omega)) ?_
                refine ql (.bool false) (by kernel_rfl) (by kernel_rfl) ?_
                refine wpList_nil ?_
                refine x_then ?_
                refine wp_cond_false (by kernel_rfl) ?_
                refine wp_skip ?_
                refine x_then ?_
                refine wp_seq ?_
                refine wp_seq ?_
                refine wp_region_lit ?_
                refine ql (.int .i64 rows) (by kernel_rfl) (by kernel_rfl) ?_
                refine ql (.bool true) (by kernel_rfl) (R_bool (p := rows > (65536 : Int)) (by kernel_rfl) (by omega)) ?_
                refine ql (.bool true) (by kernel_rfl) (by kernel_rfl) ?_
                refine qln (by kernel_rfl) ?_
                refine qln (by kernel_rfl) ?_
                refine ql (.bool true) (by kernel_rfl) (by kernel_rfl) ?_
                refine wpList_nil ?_
                refine x_then ?_
                refine wp_cond_true (by kernel_rfl) ?_
                refine wp_seq ?_
                refine wp_region_lit ?_
                refine ql (.pointer none) (by kernel_rfl) (by kernel_rfl) ?_
                refine ql (.bool true) (by kernel_rfl) (by kernel_rfl) ?_
                refine ql (.bool true) (by kernel_rfl) (by kernel_rfl) ?_
                refine ql (.int .i64 5) (by kernel_rfl) (by kernel_rfl) ?_
                refine ql (.bool true) (by kernel_rfl) (R_beq (b := ((5 : Int) == 5)) (by kernel_rfl) (by decide)) ?_
                refine ql (.bool true) (by kernel_rfl) (by kernel_rfl) ?_
                refine ql (.bool true) (by kernel_rfl) (by kernel_rfl) ?_
                refine qc (f := 23) (args := #[]) (by kernel_rfl) (R_call #[] Tryd.func23 (by kernel_rfl) (by kernel_rfl) (by kernel_rfl)) ?_
                refine (mawake _).mono ?_
                rintro e W16 ⟨rfl, H_⟩
                refine ⟨_, rfl, ?_⟩
                replace HS : St W (owns []) W16 [] := HS.join (F := []) (G := []) H_
                clear H_
                refine ql (.bool true) (by kernel_rfl) (by kernel_rfl) ?_
                refine ql (.bool true) (by kernel_rfl) (by kernel_rfl) ?_
                refine wpList_nil ?_
                refine x_then ?_
                refine wp_ret ?_
                refine x_thenR ?_
                refine ret_ (.bool true) (by kernel_rfl) ?_
                exact ⟨rfl, HS⟩
        · skip
          refine ql (.bool false) (by kernel_rfl) (R_nbool (p := cols > (12 : Int)) (by kernel_rfl) (hc6)) ?_
          refine ql (.bool false) (by kernel_rfl) (by kernel_rfl) ?_
          refine qln (by kernel_rfl) ?_
          refine qln (by kernel_rfl) ?_
          refine ql (.bool false) (by kernel_rfl) (by kernel_rfl) ?_
          refine ql (.bool false) (by kernel_rfl) (by kernel_rfl) ?_
          refine wpList_nil ?_
          refine x_then ?_
          refine wp_cond_false (by kernel_rfl) ?_
          refine wp_skip ?_
          refine x_then ?_
          refine wp_seq ?_
          refine wp_region_lit ?_
          refine ql (.int .i64 rows) (by kernel_rfl) (by kernel_rfl) ?_
          refine ql (.int .i64 cols) (by kernel_rfl) (by kernel_rfl) ?_
          refine qc (f := 24) (args := #[.int .i64 rows, .int .i64 cols]) (by kernel_rfl) (R_call #[.int .i64 rows, .int .i64 cols] Tryd.func24 (by kernel_rfl) (by kernel_rfl) (by kernel_rfl)) ?_
          by_cases hv17 : rows < 0
          · skip
            refine (mnew_arg rows cols _ (by omega)).mono ?_
            rintro e W18 ⟨rfl, H_⟩
            refine ⟨_, rfl, ?_⟩
            replace HS : St W (owns []) W18 [] := HS.join (F := []) (G := []) H_
            clear H_
            refine ql (.tuple #[.pointer none, .int .i64 2]) (by kernel_rfl) (by kernel_rfl) ?_
            refine ql (.pointer none) (by kernel_rfl) (by kernel_rfl) ?_
            refine ql (.int .i64 2) (by kernel_rfl) (by kernel_rfl) ?_
            refine ql (.pointer none) (by kernel_rfl) (by kernel_rfl) ?_
            refine ql (.int .i64 2) (by kernel_rfl) (by kernel_rfl) ?_
            refine wpList_nil ?_
            refine x_then ?_
            refine wp_seq ?_
            refine wp_seq ?_
            refine wp_region_lit ?_
            refine ql (.int .i64 rows) (by kernel_rfl) (by kernel_rfl) ?_
            refine ql (.bool true) (by kernel_rfl) (R_bool (p := rows < (0 : Int)) (by kernel_rfl) (by omega)) ?_
            refine ql (.bool true) (by kernel_rfl) (by kernel_rfl) ?_
            refine qln (by kernel_rfl) ?_
            refine qln (by kernel_rfl) ?_
            refine ql (.bool true) (by kernel_rfl) (by kernel_rfl) ?_
            refine wpList_nil ?_
            refine x_then ?_
            refine wp_cond_true (by kernel_rfl) ?_
            refine wp_seq ?_
            refine wp_region_lit ?_
            refine ql (.pointer none) (by kernel_rfl) (by kernel_rfl) ?_
            refine ql (.bool true) (by kernel_rfl) (by kernel_rfl) ?_
            refine ql (.bool true) (by kernel_rfl) (by kernel_rfl) ?_
            refine ql (.int .i64 2) (by kernel_rfl) (by kernel_rfl) ?_
            refine ql (.bool true) (by kernel_rfl) (R_beq (b := ((2 : Int) == 2)) (by kernel_rfl) (by decide)) ?_
            refine ql (.bool true) (by kernel_rfl) (by kernel_rfl) ?_
            refine ql (.bool true) (by kernel_rfl) (by kernel_rfl) ?_
            refine qc (f := 23) (args := #[]) (by kernel_rfl) (R_call #[] Tryd.func23 (by kernel_rfl) (by kernel_rfl) (by kernel_rfl)) ?_
            refine (mawake _).mono ?_
            rintro e W19 ⟨rfl, H_⟩
            refine ⟨_, rfl, ?_⟩
            replace HS : St W (owns []) W19 [] := HS.join (F := []) (G := []) H_
            clear H_
            refine ql (.bool true) (by kernel_rfl) (by kernel_rfl) ?_
            refine ql (.bool true) (by kernel_rfl) (by kernel_rfl) ?_
            refine wpList_nil ?_
            refine x_then ?_
            refine wp_ret ?_
            refine x_thenR ?_
            refine ret_ (.bool true) (by kernel_rfl) ?_
            exact ⟨rfl, HS⟩
          · skip
            by_cases hv20 : cols < 0
            · skip
              refine (mnew_arg rows cols _ (by omega)).mono ?_
              rintro e W21 ⟨rfl, H_⟩
              refine ⟨_, rfl, ?_⟩
              replace HS : St W (owns []) W21 [] := HS.join (F := []) (G := []) H_
              clear H_
              refine ql (.tuple #[.pointer none, .int .i64 2]) (by kernel_rfl) (by kernel_rfl) ?_
              refine ql (.pointer none) (by kernel_rfl) (by kernel_rfl) ?_
              refine ql (.int .i64 2) (by kernel_rfl) (by kernel_rfl) ?_
              refine ql (.pointer none) (by kernel_rfl) (by kernel_rfl) ?_
              refine ql (.int .i64 2) (by kernel_rfl) (by kernel_rfl) ?_
              refine wpList_nil ?_
              refine x_then ?_
              refine wp_seq ?_
              refine wp_seq ?_
              refine wp_region_lit ?_
              refine ql (.int .i64 rows) (by kernel_rfl) (by kernel_rfl) ?_
              refine ql (.bool false) (by kernel_rfl) (R_nbool (p := rows < (0 : Int)) (by kernel_rfl) (by omega)) ?_
              refine ql (.bool false) (by kernel_rfl) (by kernel_rfl) ?_
              refine ql (.int .i64 cols) (by kernel_rfl) (by kernel_rfl) ?_
              refine ql (.bool true) (by kernel_rfl) (R_bool (p := cols < (0 : Int)) (by kernel_rfl) (by omega)) ?_
              refine ql (.bool true) (by kernel_rfl) (by kernel_rfl) ?_
              refine wpList_nil ?_
              refine x_then ?_
              refine wp_cond_true (by kernel_rfl) ?_
              refine wp_seq ?_
              refine wp_region_lit ?_
              refine ql (.pointer none) (by kernel_rfl) (by kernel_rfl) ?_
              refine ql (.bool true) (by kernel_rfl) (by kernel_rfl) ?_
              refine ql (.bool true) (by kernel_rfl) (by kernel_rfl) ?_
              refine ql (.int .i64 2) (by kernel_rfl) (by kernel_rfl) ?_
              refine ql (.bool true) (by kernel_rfl) (R_beq (b := ((2 : Int) == 2)) (by kernel_rfl) (by decide)) ?_
              refine ql (.bool true) (by kernel_rfl) (by kernel_rfl) ?_
              refine ql (.bool true) (by kernel_rfl) (by kernel_rfl) ?_
              refine qc (f := 23) (args := #[]) (by kernel_rfl) (R_call #[] Tryd.func23 (by kernel_rfl) (by kernel_rfl) (by kernel_rfl)) ?_
              refine (mawake _).mono ?_
              rintro e W22 ⟨rfl, H_⟩
              refine ⟨_, rfl, ?_⟩
              replace HS : St W (owns []) W22 [] := HS.join (F := []) (G := []) H_
              clear H_
              refine ql (.bool true) (by kernel_rfl) (by kernel_rfl) ?_
              refine ql (.bool true) (by kernel_rfl) (by kernel_rfl) ?_
              refine wpList_nil ?_
              refine x_then ?_
              refine wp_ret ?_
              refine x_thenR ?_
              refine ret_ (.bool true) (by kernel_rfl) ?_
              exact ⟨rfl, HS⟩
            · skip
              refine (mnew_over rows cols _ (by omega) (by omega) (by omega)).mono ?_
              rintro e W23 ⟨rfl, H_⟩
              refine ⟨_, rfl, ?_⟩
              replace HS : St W (owns []) W23 [] := HS.join (F := []) (G := []) H_
              clear H_
              refine ql (.tuple #[.pointer none, .int .i64 5]) (by kernel_rfl) (by kernel_rfl) ?_
              refine ql (.pointer none) (by kernel_rfl) (by kernel_rfl) ?_
              refine ql (.int .i64 5) (by kernel_rfl) (by kernel_rfl) ?_
              refine ql (.pointer none) (by kernel_rfl) (by kernel_rfl) ?_
              refine ql (.int .i64 5) (by kernel_rfl) (by kernel_rfl) ?_
              refine wpList_nil ?_
              refine x_then ?_
              refine wp_seq ?_
              refine wp_seq ?_
              refine wp_region_lit ?_
              refine ql (.int .i64 rows) (by kernel_rfl) (by kernel_rfl) ?_
              refine ql (.bool false) (by kernel_rfl) (R_nbool (p := rows < (0 : Int)) (by kernel_rfl) (by omega)) ?_
              refine ql (.bool false) (by kernel_rfl) (by kernel_rfl) ?_
              refine ql (.int .i64 cols) (by kernel_rfl) (by kernel_rfl) ?_
              refine ql (.bool false) (by kernel_rfl) (R_nbool (p := cols < (0 : Int)) (by kernel_rfl) (by omega)) ?_
              refine ql (.bool false) (by kernel_rfl) (by kernel_rfl) ?_
              refine wpList_nil ?_
              refine x_then ?_
              refine wp_cond_false (by kernel_rfl) ?_
              refine wp_skip ?_
              refine x_then ?_
              refine wp_seq ?_
              refine wp_seq ?_
              refine wp_region_lit ?_
              refine ql (.int .i64 rows) (by kernel_rfl) (by kernel_rfl) ?_
              refine ql (.bool true) (by kernel_rfl) (R_bool (p := rows > (65536 : Int)) (by kernel_rfl) (by omega)) ?_
              refine ql (.bool true) (by kernel_rfl) (by kernel_rfl) ?_
              refine qln (by kernel_rfl) ?_
              refine qln (by kernel_rfl) ?_
              refine ql (.bool true) (by kernel_rfl) (by kernel_rfl) ?_
              refine wpList_nil ?_
              refine x_then ?_
              refine wp_cond_true (by kernel_rfl) ?_
              refine wp_seq ?_
              refine wp_region_lit ?_
              refine ql (.pointer none) (by kernel_rfl) (by kernel_rfl) ?_
              refine ql (.bool true) (by kernel_rfl) (by kernel_rfl) ?_
              refine ql (.bool true) (by kernel_rfl) (by kernel_rfl) ?_
              refine ql (.int .i64 5) (by kernel_rfl) (by kernel_rfl) ?_
              refine ql (.bool true) (by kernel_rfl) (R_beq (b := ((5 : Int) == 5)) (by kernel_rfl) (by decide)) ?_
              refine ql (.bool true) (by kernel_rfl) (by kernel_rfl) ?_
              refine ql (.bool true) (by kernel_rfl) (by kernel_rfl) ?_
              refine qc (f := 23) (args := #[]) (by kernel_rfl) (R_call #[] Tryd.func23 (by kernel_rfl) (by kernel_rfl) (by kernel_rfl)) ?_
              refine (mawake _).mono ?_
              rintro e W24 ⟨rfl, H_⟩
              refine ⟨_, rfl, ?_⟩
              replace HS : St W (owns []) W24 [] := HS.join (F := []) (G := []) H_
              clear H_
              refine ql (.bool true) (by kernel_rfl) (by kernel_rfl) ?_
              refine ql (.bool true) (by kernel_rfl) (by kernel_rfl) ?_
              refine wpList_nil ?_
              refine x_then ?_
              refine wp_ret ?_
              refine x_thenR ?_
              refine ret_ (.bool true) (by kernel_rfl) ?_
              exact ⟨rfl, HS⟩
    · skip
      refine ql (.bool false) (by kernel_rfl) (R_nbool (p := rows > (12 : Int)) (by kernel_rfl) (hc3)) ?_
      refine ql (.bool false) (by kernel_rfl) (by kernel_rfl) ?_
      refine qln (by kernel_rfl) ?_
      refine qln (by kernel_rfl) ?_
      refine ql (.bool false) (by kernel_rfl) (by kernel_rfl) ?_
      refine ql (.bool false) (by kernel_rfl) (by kernel_rfl) ?_
      refine ql (.bool false) (by kernel_rfl) (by kernel_rfl) ?_
      refine ql (.int .i64 cols) (by kernel_rfl) (by kernel_rfl) ?_
      by_cases hc25 : cols > (12 : Int)
      · skip
        refine ql (.bool true) (by kernel_rfl) (R_bool (p := cols > (12 : Int)) (by kernel_rfl) (hc25)) ?_
        refine ql (.bool true) (by kernel_rfl) (by kernel_rfl) ?_
        refine ql (.int .i64 cols) (by kernel_rfl) (by kernel_rfl) ?_
        by_cases hc26 : cols ≤ (65536 : Int)
        · skip
          refine ql (.bool true) (by kernel_rfl) (R_bool (p := cols ≤ (65536 : Int)) (by kernel_rfl) (hc26)) ?_
          refine ql (.bool true) (by kernel_rfl) (by kernel_rfl) ?_
          refine ql (.bool true) (by kernel_rfl) (by kernel_rfl) ?_
          refine wpList_nil ?_
          refine x_then ?_
          refine wp_cond_true (by kernel_rfl) ?_
          refine wp_seq ?_
          refine wp_region_lit ?_
          refine qc (f := 23) (args := #[]) (by kernel_rfl) (R_call #[] Tryd.func23 (by kernel_rfl) (by kernel_rfl) (by kernel_rfl)) ?_
          refine (mawake _).mono ?_
          rintro e W27 ⟨rfl, H_⟩
          refine ⟨_, rfl, ?_⟩
          replace HS : St W (owns []) W27 [] := HS.join (F := []) (G := []) H_
          clear H_
          refine ql (.bool true) (by kernel_rfl) (by kernel_rfl) ?_
          refine wpList_nil ?_
          refine x_then ?_
          refine wp_ret ?_
          refine x_thenR ?_
          refine ret_ (.bool true) (by kernel_rfl) ?_
          exact ⟨rfl, HS⟩
        · skip
          refine ql (.bool false) (by kernel_rfl) (R_nbool (p := cols ≤ (65536 : Int)) (by kernel_rfl) (hc26)) ?_
          refine ql (.bool false) (by kernel_rfl) (by kernel_rfl) ?_
          refine ql (.bool false) (by kernel_rfl) (by kernel_rfl) ?_
          refine wpList_nil ?_
          refine x_then ?_
          refine wp_cond_false (by kernel_rfl) ?_
          refine wp_skip ?_
          refine x_then ?_
          refine wp_seq ?_
          refine wp_region_lit ?_
          refine ql (.int .i64 rows) (by kernel_rfl) (by kernel_rfl) ?_
          refine ql (.int .i64 cols) (by kernel_rfl) (by kernel_rfl) ?_
          refine qc (f := 24) (args := #[.int .i64 rows, .int .i64 cols]) (by kernel_rfl) (R_call #[.int .i64 rows, .int .i64 cols] Tryd.func24 (by kernel_rfl) (by kernel_rfl) (by kernel_rfl)) ?_
          by_cases hv28 : rows < 0
          · skip
            refine (mnew_arg rows cols _ (by omega)).mono ?_
            rintro e W29 ⟨rfl, H_⟩
            refine ⟨_, rfl, ?_⟩
            replace HS : St W (owns []) W29 [] := HS.join (F := []) (G := []) H_
            clear H_
            refine ql (.tuple #[.pointer none, .int .i64 2]) (by kernel_rfl) (by kernel_rfl) ?_
            refine ql (.pointer none) (by kernel_rfl) (by kernel_rfl) ?_
            refine ql (.int .i64 2) (by kernel_rfl) (by kernel_rfl) ?_
            refine ql (.pointer none) (by kernel_rfl) (by kernel_rfl) ?_
            refine ql (.int .i64 2) (by kernel_rfl) (by kernel_rfl) ?_
            refine wpList_nil ?_
            refine x_then ?_
            refine wp_seq ?_
            refine wp_seq ?_
            refine wp_region_lit ?_
            refine ql (.int .i64 rows) (by kernel_rfl) (by kernel_rfl) ?_
            refine ql (.bool true) (by kernel_rfl) (R_bool (p := rows < (0 : Int)) (by kernel_rfl) (by omega)) ?_
            refine ql (.bool true) (by kernel_rfl) (by kernel_rfl) ?_
            refine qln (by kernel_rfl) ?_
            refine qln (by kernel_rfl) ?_
            refine ql (.bool true) (by kernel_rfl) (by kernel_rfl) ?_
            refine wpList_nil ?_
            refine x_then ?_
            refine wp_cond_true (by kernel_rfl) ?_
            refine wp_seq ?_
            refine wp_region_lit ?_
            refine ql (.pointer none) (by kernel_rfl) (by kernel_rfl) ?_
            refine ql (.bool true) (by kernel_rfl) (by kernel_rfl) ?_
            refine ql (.bool true) (by kernel_rfl) (by kernel_rfl) ?_
            refine ql (.int .i64 2) (by kernel_rfl) (by kernel_rfl) ?_
            refine ql (.bool true) (by kernel_rfl) (R_beq (b := ((2 : Int) == 2)) (by kernel_rfl) (by decide)) ?_
            refine ql (.bool true) (by kernel_rfl) (by kernel_rfl) ?_
            refine ql (.bool true) (by kernel_rfl) (by kernel_rfl) ?_
            refine qc (f := 23) (args := #[]) (by kernel_rfl) (R_call #[] Tryd.func23 (by kernel_rfl) (by kernel_rfl) (by kernel_rfl)) ?_
            refine (mawake _).mono ?_
            rintro e W30 ⟨rfl, H_⟩
            refine ⟨_, rfl, ?_⟩
            replace HS : St W (owns []) W30 [] := HS.join (F := []) (G := []) H_
            clear H_
            refine ql (.bool true) (by kernel_rfl) (by kernel_rfl) ?_
            refine ql (.bool true) (by kernel_rfl) (by kernel_rfl) ?_
            refine wpList_nil ?_
            refine x_then ?_
            refine wp_ret ?_
            refine x_thenR ?_
            refine ret_ (.bool true) (by kernel_rfl) ?_
            exact ⟨rfl, HS⟩
          · skip
            by_cases hv31 : cols < 0
            · skip
              refine (mnew_arg rows cols _ (by omega)).mono ?_
              rintro e W32 ⟨rfl, H_⟩
              refine ⟨_, rfl, ?_⟩
              replace HS : St W (owns []) W32 [] := HS.join (F := []) (G := []) H_
              clear H_
              refine ql (.tuple #[.pointer none, .int .i64 2]) (by kernel_rfl) (by kernel_rfl) ?_
              refine ql (.pointer none) (by kernel_rfl) (by kernel_rfl) ?_
              refine ql (.int .i64 2) (by kernel_rfl) (by kernel_rfl) ?_
              refine ql (.pointer none) (by kernel_rfl) (by kernel_rfl) ?_
              refine ql (.int .i64 2) (by kernel_rfl) (by kernel_rfl) ?_
              refine wpList_nil ?_
              refine x_then ?_
              refine wp_seq ?_
              refine wp_seq ?_
              refine wp_region_lit ?_
              refine ql (.int .i64 rows) (by kernel_rfl) (by kernel_rfl) ?_
              refine ql (.bool false) (by kernel_rfl) (R_nbool (p := rows < (0 : Int)) (by kernel_rfl) (by omega)) ?_
              refine ql (.bool false) (by kernel_rfl) (by kernel_rfl) ?_
              refine ql (.int .i64 cols) (by kernel_rfl) (by kernel_rfl) ?_
              refine ql (.bool true) (by kernel_rfl) (R_bool (p := cols < (0 : Int)) (by kernel_rfl) (by omega)) ?_
              refine ql (.bool true) (by kernel_rfl) (by kernel_rfl) ?_
              refine wpList_nil ?_
              refine x_then ?_
              refine wp_cond_true (by kernel_rfl) ?_
              refine wp_seq ?_
              refine wp_region_lit ?_
              refine ql (.pointer none) (by kernel_rfl) (by kernel_rfl) ?_
              refine ql (.bool true) (by kernel_rfl) (by kernel_rfl) ?_
              refine ql (.bool true) (by kernel_rfl) (by kernel_rfl) ?_
              refine ql (.int .i64 2) (by kernel_rfl) (by kernel_rfl) ?_
              refine ql (.bool true) (by kernel_rfl) (R_beq (b := ((2 : Int) == 2)) (by kernel_rfl) (by decide)) ?_
              refine ql (.bool true) (by kernel_rfl) (by kernel_rfl) ?_
              refine ql (.bool true) (by kernel_rfl) (by kernel_rfl) ?_
              refine qc (f := 23) (args := #[]) (by kernel_rfl) (R_call #[] Tryd.func23 (by kernel_rfl) (by kernel_rfl) (by kernel_rfl)) ?_
              refine (mawake _).mono ?_
              rintro e W33 ⟨rfl, H_⟩
              refine ⟨_, rfl, ?_⟩
              replace HS : St W (owns []) W33 [] := HS.join (F := []) (G := []) H_
              clear H_
              refine ql (.bool true) (by kernel_rfl) (by kernel_rfl) ?_
              refine ql (.bool true) (by kernel_rfl) (by kernel_rfl) ?_
              refine wpList_nil ?_
              refine x_then ?_
              refine wp_ret ?_
              refine x_thenR ?_
              refine ret_ (.bool true) (by kernel_rfl) ?_
              exact ⟨rfl, HS⟩
            · skip
              refine (mnew_over rows cols _ (by omega) (by omega) (by omega)).mono ?_
              rintro e W34 ⟨rfl, H_⟩
              refine ⟨_, rfl, ?_⟩
              replace HS : St W (owns []) W34 [] := HS.join (F := []) (G := []) H_
              clear H_
              refine ql (.tuple #[.pointer none, .int .i64 5]) (by kernel_rfl) (by kernel_rfl) ?_
              refine ql (.pointer none) (by kernel_rfl) (by kernel_rfl) ?_
              refine ql (.int .i64 5) (by kernel_rfl) (by kernel_rfl) ?_
              refine ql (.pointer none) (by kernel_rfl) (by kernel_rfl) ?_
              refine ql (.int .i64 5) (by kernel_rfl) (by kernel_rfl) ?_
              refine wpList_nil ?_
              refine x_then ?_
              refine wp_seq ?_
              refine wp_seq ?_
              refine wp_region_lit ?_
              refine ql (.int .i64 rows) (by kernel_rfl) (by kernel_rfl) ?_
              refine ql (.bool false) (by kernel_rfl) (R_nbool (p := rows < (0 : Int)) (by kernel_rfl) (by omega)) ?_
              refine ql (.bool false) (by kernel_rfl) (by kernel_rfl) ?_
              refine ql (.int .i64 cols) (by kernel_rfl) (by kernel_rfl) ?_
              refine ql (.bool false) (by kernel_rfl) (R_nbool (p := cols < (0 : Int)) (by kernel_rfl) (by omega)) ?_
              refine ql (.bool false) (by kernel_rfl) (by kernel_rfl) ?_
              refine wpList_nil ?_
              refine x_then ?_
              refine wp_cond_false (by kernel_rfl) ?_
              refine wp_skip ?_
              refine x_then ?_
              refine wp_seq ?_
              refine wp_seq ?_
              refine wp_region_lit ?_
              refine ql (.int .i64 rows) (by kernel_rfl) (by kernel_rfl) ?_
              refine ql (.bool false) (by kernel_rfl) (R_nbool (p := rows > (65536 : Int)) (by kernel_rfl) (by omega)) ?_
              refine ql (.bool false) (by kernel_rfl) (by kernel_rfl) ?_
              refine ql (.int .i64 cols) (by kernel_rfl) (by kernel_rfl) ?_
              refine ql (.bool true) (by kernel_rfl) (R_bool (p := cols > (65536 : Int)) (by kernel_rfl) (by omega)) ?_
              refine ql (.bool true) (by kernel_rfl) (by kernel_rfl) ?_
              refine wpList_nil ?_
              refine x_then ?_
              refine wp_cond_true (by kernel_rfl) ?_
              refine wp_seq ?_
              refine wp_region_lit ?_
              refine ql (.pointer none) (by kernel_rfl) (by kernel_rfl) ?_
              refine ql (.bool true) (by kernel_rfl) (by kernel_rfl) ?_
              refine ql (.bool true) (by kernel_rfl) (by kernel_rfl) ?_
              refine ql (.int .i64 5) (by kernel_rfl) (by kernel_rfl) ?_
              refine ql (.bool true) (by kernel_rfl) (R_beq (b := ((5 : Int) == 5)) (by kernel_rfl) (by decide)) ?_
              refine ql (.bool true) (by kernel_rfl) (by kernel_rfl) ?_
              refine ql (.bool true) (by kernel_rfl) (by kernel_rfl) ?_
              refine qc (f := 23) (args := #[]) (by kernel_rfl) (R_call #[] Tryd.func23 (by kernel_rfl) (by kernel_rfl) (by kernel_rfl)) ?_
              refine (mawake _).mono ?_
              rintro e W35 ⟨rfl, H_⟩
              refine ⟨_, rfl, ?_⟩
              replace HS : St W (owns []) W35 [] := HS.join (F := []) (G := []) H_
              clear H_
              refine ql (.bool true) (by kernel_rfl) (by kernel_rfl) ?_
              refine ql (.bool true) (by kernel_rfl) (by kernel_rfl) ?_
              refine wpList_nil ?_
              refine x_then ?_
              refine wp_ret ?_
              refine x_thenR ?_
              refine ret_ (.bool true) (by kernel_rfl) ?_
              exact ⟨rfl, HS⟩
      · skip
        refine ql (.bool false) (by kernel_rfl) (R_nbool (p := cols > (12 : Int)) (by kernel_rfl) (hc25)) ?_
        refine ql (.bool false) (by kernel_rfl) (by kernel_rfl) ?_
        refine qln (by kernel_rfl) ?_
        refine qln (by kernel_rfl) ?_
        refine ql (.bool false) (by kernel_rfl) (by kernel_rfl) ?_
        refine ql (.bool false) (by kernel_rfl) (by kernel_rfl) ?_
        refine wpList_nil ?_
        refine x_then ?_
        refine wp_cond_false (by kernel_rfl) ?_
        refine wp_skip ?_
        refine x_then ?_
        refine wp_seq ?_
        refine wp_region_lit ?_
        refine ql (.int .i64 rows) (by kernel_rfl) (by kernel_rfl) ?_
        refine ql (.int .i64 cols) (by kernel_rfl) (by kernel_rfl) ?_
        refine qc (f := 24) (args := #[.int .i64 rows, .int .i64 cols]) (by kernel_rfl) (R_call #[.int .i64 rows, .int .i64 cols] Tryd.func24 (by kernel_rfl) (by kernel_rfl) (by kernel_rfl)) ?_
        by_cases hv36 : rows < 0
        · skip
          refine (mnew_arg rows cols _ (by omega)).mono ?_
          rintro e W37 ⟨rfl, H_⟩
          refine ⟨_, rfl, ?_⟩
          replace HS : St W (owns []) W37 [] := HS.join (F := []) (G := []) H_
          clear H_
          refine ql (.tuple #[.pointer none, .int .i64 2]) (by kernel_rfl) (by kernel_rfl) ?_
          refine ql (.pointer none) (by kernel_rfl) (by kernel_rfl) ?_
          refine ql (.int .i64 2) (by kernel_rfl) (by kernel_rfl) ?_
          refine ql (.pointer none) (by kernel_rfl) (by kernel_rfl) ?_
          refine ql (.int .i64 2) (by kernel_rfl) (by kernel_rfl) ?_
          refine wpList_nil ?_
          refine x_then ?_
          refine wp_seq ?_
          refine wp_seq ?_
          refine wp_region_lit ?_
          refine ql (.int .i64 rows) (by kernel_rfl) (by kernel_rfl) ?_
          refine ql (.bool true) (by kernel_rfl) (R_bool (p := rows < (0 : Int)) (by kernel_rfl) (by omega)) ?_
          refine ql (.bool true) (by kernel_rfl) (by kernel_rfl) ?_
          refine qln (by kernel_rfl) ?_
          refine qln (by kernel_rfl) ?_
          refine ql (.bool true) (by kernel_rfl) (by kernel_rfl) ?_
          refine wpList_nil ?_
          refine x_then ?_
          refine wp_cond_true (by kernel_rfl) ?_
          refine wp_seq ?_
          refine wp_region_lit ?_
          refine ql (.pointer none) (by kernel_rfl) (by kernel_rfl) ?_
          refine ql (.bool true) (by kernel_rfl) (by kernel_rfl) ?_
          refine ql (.bool true) (by kernel_rfl) (by kernel_rfl) ?_
          refine ql (.int .i64 2) (by kernel_rfl) (by kernel_rfl) ?_
          refine ql (.bool true) (by kernel_rfl) (R_beq (b := ((2 : Int) == 2)) (by kernel_rfl) (by decide)) ?_
          refine ql (.bool true) (by kernel_rfl) (by kernel_rfl) ?_
          refine ql (.bool true) (by kernel_rfl) (by kernel_rfl) ?_
          refine qc (f := 23) (args := #[]) (by kernel_rfl) (R_call #[] Tryd.func23 (by kernel_rfl) (by kernel_rfl) (by kernel_rfl)) ?_
          refine (mawake _).mono ?_
          rintro e W38 ⟨rfl, H_⟩
          refine ⟨_, rfl, ?_⟩
          replace HS : St W (owns []) W38 [] := HS.join (F := []) (G := []) H_
          clear H_
          refine ql (.bool true) (by kernel_rfl) (by kernel_rfl) ?_
          refine ql (.bool true) (by kernel_rfl) (by kernel_rfl) ?_
          refine wpList_nil ?_
          refine x_then ?_
          refine wp_ret ?_
          refine x_thenR ?_
          refine ret_ (.bool true) (by kernel_rfl) ?_
          exact ⟨rfl, HS⟩
        · skip
          by_cases hv39 : cols < 0
          · skip
            refine (mnew_arg rows cols _ (by omega)).mono ?_
            rintro e W40 ⟨rfl, H_⟩
            refine ⟨_, rfl, ?_⟩
            replace HS : St W (owns []) W40 [] := HS.join (F := []) (G := []) H_
            clear H_
            refine ql (.tuple #[.pointer none, .int .i64 2]) (by kernel_rfl) (by kernel_rfl) ?_
            refine ql (.pointer none) (by kernel_rfl) (by kernel_rfl) ?_
            refine ql (.int .i64 2) (by kernel_rfl) (by kernel_rfl) ?_
            refine ql (.pointer none) (by kernel_rfl) (by kernel_rfl) ?_
            refine ql (.int .i64 2) (by kernel_rfl) (by kernel_rfl) ?_
            refine wpList_nil ?_
            refine x_then ?_
            refine wp_seq ?_
            refine wp_seq ?_
            refine wp_region_lit ?_
            refine ql (.int .i64 rows) (by kernel_rfl) (by kernel_rfl) ?_
            refine ql (.bool false) (by kernel_rfl) (R_nbool (p := rows < (0 : Int)) (by kernel_rfl) (by omega)) ?_
            refine ql (.bool false) (by kernel_rfl) (by kernel_rfl) ?_
            refine ql (.int .i64 cols) (by kernel_rfl) (by kernel_rfl) ?_
            refine ql (.bool true) (by kernel_rfl) (R_bool (p := cols < (0 : Int)) (by kernel_rfl) (by omega)) ?_
            refine ql (.bool true) (by kernel_rfl) (by kernel_rfl) ?_
            refine wpList_nil ?_
            refine x_then ?_
            refine wp_cond_true (by kernel_rfl) ?_
            refine wp_seq ?_
            refine wp_region_lit ?_
            refine ql (.pointer none) (by kernel_rfl) (by kernel_rfl) ?_
            refine ql (.bool true) (by kernel_rfl) (by kernel_rfl) ?_
            refine ql (.bool true) (by kernel_rfl) (by kernel_rfl) ?_
            refine ql (.int .i64 2) (by kernel_rfl) (by kernel_rfl) ?_
            refine ql (.bool true) (by kernel_rfl) (R_beq (b := ((2 : Int) == 2)) (by kernel_rfl) (by decide)) ?_
            refine ql (.bool true) (by kernel_rfl) (by kernel_rfl) ?_
            refine ql (.bool true) (by kernel_rfl) (by kernel_rfl) ?_
            refine qc (f := 23) (args := #[]) (by kernel_rfl) (R_call #[] Tryd.func23 (by kernel_rfl) (by kernel_rfl) (by kernel_rfl)) ?_
            refine (mawake _).mono ?_
            rintro e W41 ⟨rfl, H_⟩
            refine ⟨_, rfl, ?_⟩
            replace HS : St W (owns []) W41 [] := HS.join (F := []) (G := []) H_
            clear H_
            refine ql (.bool true) (by kernel_rfl) (by kernel_rfl) ?_
            refine ql (.bool true) (by kernel_rfl) (by kernel_rfl) ?_
            refine wpList_nil ?_
            refine x_then ?_
            refine wp_ret ?_
            refine x_thenR ?_
            refine ret_ (.bool true) (by kernel_rfl) ?_
            exact ⟨rfl, HS⟩
          · skip
            refine (mnew_ok rows cols _ (by omega) (by omega) (by omega) (by omega)).mono ?_
            rintro e W47 ⟨g42, a43, cr44, rs45, rfl, H_, hqrs45⟩
            have hR46 : MRep rs45 cols (List.replicate rows.toNat ([] : List Int)) := by rw [hqrs45]; exact MRep.zero (by omega)
            have hlrs45 : rs45.length = rows.toNat := by rw [hqrs45, List.length_replicate]
            refine ⟨_, rfl, ?_⟩
            replace HS : St W (owns []) W47 [blk g42 [.slice (some ⟨a43, 0, none⟩) rs45.length cr44, .int .i64 cols] 87, row (some ⟨a43, 0, none⟩) rs45.length cr44 (cf cpt rs45) 32 1, many (rsE 77 74 cols rs45)] := HS.join (F := []) (G := [blk g42 [.slice (some ⟨a43, 0, none⟩) rs45.length cr44, .int .i64 cols] 87, row (some ⟨a43, 0, none⟩) rs45.length cr44 (cf cpt rs45) 32 1, many (rsE 77 74 cols rs45)]) H_
            clear H_
            refine ql (.tuple #[.pointer (some ⟨g42, 0, none⟩), .int .i64 0]) (by kernel_rfl) (by kernel_rfl) ?_
            refine ql (.pointer (some ⟨g42, 0, none⟩)) (by kernel_rfl) (by kernel_rfl) ?_
            refine ql (.int .i64 0) (by kernel_rfl) (by kernel_rfl) ?_
            refine ql (.pointer (some ⟨g42, 0, none⟩)) (by kernel_rfl) (by kernel_rfl) ?_
            refine ql (.int .i64 0) (by kernel_rfl) (by kernel_rfl) ?_
            refine wpList_nil ?_
            refine x_then ?_
            refine wp_seq ?_
            refine wp_seq ?_
            refine wp_region_lit ?_
            refine ql (.int .i64 rows) (by kernel_rfl) (by kernel_rfl) ?_
            refine ql (.bool false) (by kernel_rfl) (R_nbool (p := rows < (0 : Int)) (by kernel_rfl) (by omega)) ?_
            refine ql (.bool false) (by kernel_rfl) (by kernel_rfl) ?_
            refine ql (.int .i64 cols) (by kernel_rfl) (by kernel_rfl) ?_
            refine ql (.bool false) (by kernel_rfl) (R_nbool (p := cols < (0 : Int)) (by kernel_rfl) (by omega)) ?_
            refine ql (.bool false) (by kernel_rfl) (by kernel_rfl) ?_
            refine wpList_nil ?_
            refine x_then ?_
            refine wp_cond_false (by kernel_rfl) ?_
            refine wp_skip ?_
            refine x_then ?_
            refine wp_seq ?_
            refine wp_seq ?_
            refine wp_region_lit ?_
            refine ql (.int .i64 rows) (by kernel_rfl) (by kernel_rfl) ?_
            refine ql (.bool false) (by kernel_rfl) (R_nbool (p := rows > (65536 : Int)) (by kernel_rfl) (by omega)) ?_
            refine ql (.bool false) (by kernel_rfl) (by kernel_rfl) ?_
            refine ql (.int .i64 cols) (by kernel_rfl) (by kernel_rfl) ?_
            refine ql (.bool false) (by kernel_rfl) (R_nbool (p := cols > (65536 : Int)) (by kernel_rfl) (by omega)) ?_
            refine ql (.bool false) (by kernel_rfl) (by kernel_rfl) ?_
            refine wpList_nil ?_
            refine x_then ?_
            refine wp_cond_false (by kernel_rfl) ?_
            refine wp_skip ?_
            refine x_then ?_
            refine wp_seq ?_
            refine wp_seq ?_
            refine wp_region_lit ?_
            refine ql (.pointer (some ⟨g42, 0, none⟩)) (by kernel_rfl) (by kernel_rfl) ?_
            refine ql (.bool false) (by kernel_rfl) (by kernel_rfl) ?_
            refine ql (.bool false) (by kernel_rfl) (by kernel_rfl) ?_
            refine ql (.int .i64 0) (by kernel_rfl) (by kernel_rfl) ?_
            refine ql (.bool false) (by kernel_rfl) (R_beq (b := ((0 : Int) != 0)) (by kernel_rfl) (by decide)) ?_
            refine ql (.bool false) (by kernel_rfl) (by kernel_rfl) ?_
            refine wpList_nil ?_
            refine x_then ?_
            refine wp_cond_false (by kernel_rfl) ?_
            refine wp_skip ?_
            refine x_then ?_
            refine wp_seq ?_
            refine wp_region_lit ?_
            refine ql (.int .i64 rows) (by kernel_rfl) (by kernel_rfl) ?_
            refine ql (.int .i64 cols) (by kernel_rfl) (by kernel_rfl) ?_
            refine ql (.agg #[.int .i64 rows, .int .i64 cols, .slice none 0 0]) (by kernel_rfl) (by kernel_rfl) ?_
            refine kb HS [.int .i64 0, .int .i64 0, .slice none 0 0] 46 (fun g => .pointer (some ⟨g, 0, none⟩)) (by kernel_rfl) (by kernel_rfl) ?_
            intro g48 W49 H_
            replace HS : St W (owns []) W49 [blk g48 [.int .i64 0, .int .i64 0, .slice none 0 0] 46, blk g42 [.slice (some ⟨a43, 0, none⟩) rs45.length cr44, .int .i64 cols] 87, row (some ⟨a43, 0, none⟩) rs45.length cr44 (cf cpt rs45) 32 1, many (rsE 77 74 cols rs45)] := H_
            clear H_
            refine ks (v := .agg #[.int .i64 rows, .int .i64 cols, .slice none 0 0]) HS 0 rfl (0) [.int .i64 rows, .int .i64 cols, .slice none 0 0] (by kernel_rfl) (by kernel_rfl) (by kernel_rfl) (by kernel_rfl) (by kernel_rfl) (one_ (by kernel_rfl)) (Nat.le_of_ble_eq_true rfl) rfl ?_
            intro W50 H_
            replace HS : St W (owns []) W50 [blk g48 [.int .i64 rows, .int .i64 cols, .slice none 0 0] 46, blk g42 [.slice (some ⟨a43, 0, none⟩) rs45.length cr44, .int .i64 cols] 87, row (some ⟨a43, 0, none⟩) rs45.length cr44 (cf cpt rs45) 32 1, many (rsE 77 74 cols rs45)] := H_
            clear H_
            refine wpList_nil ?_
            refine x_then ?_
            refine wp_seq ?_
            refine wp_seq ?_
            refine wp_region_lit ?_
            refine ql (.int .i64 0) (by kernel_rfl) (by kernel_rfl) ?_
            refine wpList_nil ?_
            refine x_then ?_
            refine wp_block ?_
            replace HS : St W (owns []) W50 [row none 0 0 (cf actD ([])) 58 2, blk g48 [.int .i64 rows, .int .i64 cols, .slice none 0 0] 46, blk g42 [.slice (some ⟨a43, 0, none⟩) rs45.length cr44, .int .i64 cols] 87, row (some ⟨a43, 0, none⟩) rs45.length cr44 (cf cpt rs45) 32 1, many (rsE 77 74 cols rs45)] := (HS.nilRow 58 2).cast_ (by kernel_rfl)
            replace HS : St W (owns []) W50 [blk g42 [.slice (some ⟨a43, 0, none⟩) rs45.length cr44, .int .i64 cols] 87, row (some ⟨a43, 0, none⟩) rs45.length cr44 (cf cpt rs45) 32 1, many (rsE 77 74 cols rs45), blk g48 [.int .i64 rows, .int .i64 cols, .slice none 0 0] 46, row none 0 0 (cf actD ([])) 58 2] := St.tail (F := []) (HS.perm (perm_ [2, 3, 4, 1, 0] (by kernel_rfl) rfl))
            refine wp_loop_ghost (fun kq a' w' => ∃ (J51 : Nat → Value) (k : Int) (rs_ : List Rw) (Ls_ : List (List Int)) (cq_ : List (Int × Int)) (Aq : Option Addr) (cp : Nat) , a' = Fr ((.int .i64 rows) :: (.int .i64 cols) :: (.slice Al l.length cl) :: (.int .i64 r) :: (.int .i64 c) :: undef :: undef :: undef :: undef :: undef :: ((J51 10)) :: (.pointer (some ⟨g42, 0, none⟩)) :: (.int .i64 0) :: (.pointer (some ⟨g48, 0, none⟩)) :: (.int .i64 k) :: ((J51 15)) :: ((J51 16)) :: (.slice Al l.length cl) :: (.int .i64 (l.length : Int)) :: (.bool false) :: (.bool false) :: (.int .i64 rows) :: (.bool false) :: (.bool false) :: undef :: undef :: (.bool false) :: (.bool false) :: (.bool false) :: (.int .i64 cols) :: (.bool false) :: (.bool false) :: undef :: undef :: (.bool false) :: (.bool false) :: undef :: (.tuple #[.pointer (some ⟨g42, 0, none⟩), .int .i64 0]) :: (.int .i64 rows) :: (.int .i64 cols) :: (.tuple #[.pointer (some ⟨g42, 0, none⟩), .int .i64 0]) :: (.pointer (some ⟨g42, 0, none⟩)) :: (.int .i64 0) :: (.int .i64 rows) :: (.bool false) :: (.bool false) :: (.int .i64 cols) :: (.bool false) :: (.bool false) :: undef :: undef :: undef :: undef :: undef :: undef :: undef :: undef :: undef :: (.int .i64 rows) :: (.bool false) :: (.bool false) :: (.int .i64 cols) :: (.bool false) :: (.bool false) :: undef :: undef :: undef :: undef :: undef :: undef :: undef :: undef :: undef :: (.pointer (some ⟨g42, 0, none⟩)) :: (.bool false) :: (.bool false) :: (.int .i64 0) :: (.bool false) :: (.bool false) :: (.int .i64 rows) :: (.int .i64 cols) :: (.agg #[.int .i64 rows, .int .i64 cols, .slice none 0 0]) :: ((J51 82)) :: ((J51 83)) :: ((J51 84)) :: ((J51 85)) :: ((J51 86)) :: ((J51 87)) :: ((J51 88)) :: ((J51 89)) :: ((J51 90)) :: ((J51 91)) :: ((J51 92)) :: ((J51 93)) :: ((J51 94)) :: ((J51 95)) :: ((J51 96)) :: ((J51 97)) :: ((J51 98)) :: ((J51 99)) :: ((J51 100)) :: ((J51 101)) :: ((J51 102)) :: ((J51 103)) :: ((J51 104)) :: ((J51 105)) :: ((J51 106)) :: ((J51 107)) :: ((J51 108)) :: ((J51 109)) :: ((J51 110)) :: ((J51 111)) :: ((J51 112)) :: ((J51 113)) :: ((J51 114)) :: ((J51 115)) :: ((J51 116)) :: ((J51 117)) :: ((J51 118)) :: ((J51 119)) :: ((J51 120)) :: ((J51 121)) :: ((J51 122)) :: ((J51 123)) :: ((J51 124)) :: ((J51 125)) :: ((J51 126)) :: ((J51 127)) :: ((J51 128)) :: ((J51 129)) :: ((J51 130)) :: ((J51 131)) :: ((J51 132)) :: ((J51 133)) :: ((J51 134)) :: ((J51 135)) :: ((J51 136)) :: ((J51 137)) :: ((J51 138)) :: ((J51 139)) :: ((J51 140)) :: ((J51 141)) :: ((J51 142)) :: ((J51 143)) :: ((J51 144)) :: ((J51 145)) :: ((J51 146)) :: ((J51 147)) :: ((J51 148)) :: ((J51 149)) :: ((J51 150)) :: ((J51 151)) :: undef :: []) ∧ kq = (l.length - (k).toNat) ∧ (0 ≤ k) ∧ (k ≤ l.length) ∧ (MRep rs_ cols Ls_) ∧ (MC cq_ Ls_) ∧ ((rs_.length : Int) = rows) ∧ St W (owns []) w' [blk g42 [.slice (some ⟨a43, 0, none⟩) rs_.length cr44, .int .i64 cols] 87, row (some ⟨a43, 0, none⟩) rs_.length cr44 (cf cpt rs_) 32 1, many (rsE 77 74 cols rs_), blk g48 [.int .i64 rows, .int .i64 cols, .slice Aq cq_.length cp] 46, row Aq cq_.length cp (cf actD cq_) 58 2]) (l.length - ((0 : Int)).toNat) ⟨(fun k_ : Nat => List.getD ((.int .i64 rows) :: (.int .i64 cols) :: (.slice Al l.length cl) :: (.int .i64 r) :: (.int .i64 c) :: undef :: undef :: undef :: undef :: undef :: (.bool false) :: (.pointer (some ⟨g42, 0, none⟩)) :: (.int .i64 0) :: (.pointer (some ⟨g48, 0, none⟩)) :: (.int .i64 0) :: undef :: undef :: (.slice Al l.length cl) :: (.int .i64 (l.length : Int)) :: (.bool false) :: (.bool false) :: (.int .i64 rows) :: (.bool false) :: (.bool false) :: undef :: undef :: (.bool false) :: (.bool false) :: (.bool false) :: (.int .i64 cols) :: (.bool false) :: (.bool false) :: undef :: undef :: (.bool false) :: (.bool false) :: undef :: (.tuple #[.pointer (some ⟨g42, 0, none⟩), .int .i64 0]) :: (.int .i64 rows) :: (.int .i64 cols) :: (.tuple #[.pointer (some ⟨g42, 0, none⟩), .int .i64 0]) :: (.pointer (some ⟨g42, 0, none⟩)) :: (.int .i64 0) :: (.int .i64 rows) :: (.bool false) :: (.bool false) :: (.int .i64 cols) :: (.bool false) :: (.bool false) :: undef :: undef :: undef :: undef :: undef :: undef :: undef :: undef :: undef :: (.int .i64 rows) :: (.bool false) :: (.bool false) :: (.int .i64 cols) :: (.bool false) :: (.bool false) :: undef :: undef :: undef :: undef :: undef :: undef :: undef :: undef :: undef :: (.pointer (some ⟨g42, 0, none⟩)) :: (.bool false) :: (.bool false) :: (.int .i64 0) :: (.bool false) :: (.bool false) :: (.int .i64 rows) :: (.int .i64 cols) :: (.agg #[.int .i64 rows, .int .i64 cols, .slice none 0 0]) :: undef :: undef :: undef :: undef :: undef :: undef :: undef :: undef :: undef :: undef :: undef :: undef :: undef :: undef :: undef :: undef :: undef :: undef :: undef :: undef :: undef :: undef :: undef :: undef :: undef :: undef :: undef :: undef :: undef :: undef :: undef :: undef :: undef :: undef :: undef :: undef :: undef :: undef :: undef :: undef :: undef :: undef :: undef :: undef :: undef :: undef :: undef :: undef :: undef :: undef :: undef :: undef :: undef :: undef :: undef :: undef :: undef :: undef :: undef :: undef :: undef :: undef :: undef :: undef :: undef :: undef :: undef :: undef :: undef :: undef :: undef :: []) k_ undef), (0 : Int), rs45, (List.replicate rows.toNat ([] : List Int)), [], none, 0, congrArg Fr (by kernel_rfl), rfl, by omega, by omega, hR46, (mc_zero _), (by omega), HS⟩ ?_
            clear HS
            intro kq52 a' W53 hrel
            obtain ⟨J51, k, rs_, Ls_, cq_, Aq, cp, rfl, hk, k0, k1, hRk, hMk, hlk, HS⟩ := hrel
            have hLl := hRk.len
            have hsa := hRk.srt_
            have hna := hMk.cnt
            have hca := cnt_srt hsa (by omega)
            have hma : cols.toNat * Ls_.length ≤ 40000 := Nat.mul_le_mul (by omega : cols.toNat ≤ 200) (by have := hRk.len; omega : Ls_.length ≤ 200)
            refine wp_seq ?_
            refine wp_seq ?_
            refine wp_region_lit ?_
            refine ql (.int .i64 k) (by kernel_rfl) (by kernel_rfl) ?_
            refine ql (.slice Al l.length cl) (by kernel_rfl) (by kernel_rfl) ?_
            refine ql (.int .i64 (l.length : Int)) (by kernel_rfl) (by kernel_rfl) ?_
            by_cases hc54 : k < (l.length : Int)
            · skip
              refine ql (.bool true) (by kernel_rfl) (R_bool (p := k < (l.length : Int)) (by kernel_rfl) (hc54)) ?_
              refine wpList_nil ?_
              refine x_then ?_
              refine wp_cond_true (by kernel_rfl) ?_
              refine wp_skip ?_
              refine x_then ?_
              refine wp_seq ?_
              refine wp_block ?_
              refine wp_seq ?_
              refine t_start HS (fun k_ => (blk g42 [.slice (some ⟨a43, 0, none⟩) rs_.length cr44, .int .i64 cols] 87).own k_ ∨ (row (some ⟨a43, 0, none⟩) rs_.length cr44 (cf cpt rs_) 32 1).own k_ ∨ (many (rsE 77 74 cols rs_)).own k_ ∨ (row Aq cq_.length cp (cf actD cq_) 58 2).own k_) 13 (by kernel_rfl) rfl ?_
              intro W55 H_ HD_
              clear HD_
              replace HS : St W (owns []) W55 [blk g42 [.slice (some ⟨a43, 0, none⟩) rs_.length cr44, .int .i64 cols] 87, row (some ⟨a43, 0, none⟩) rs_.length cr44 (cf cpt rs_) 32 1, many (rsE 77 74 cols rs_), blk g48 [.int .i64 rows, .int .i64 cols, .slice Aq cq_.length cp] 46, row Aq cq_.length cp (cf actD cq_) 58 2] := H_
              clear H_
              have HV := HS
              have HK := Kpt.refl (fun k_ => (blk g42 [.slice (some ⟨a43, 0, none⟩) rs_.length cr44, .int .i64 cols] 87).own k_ ∨ (row (some ⟨a43, 0, none⟩) rs_.length cr44 (cf cpt rs_) 32 1).own k_ ∨ (many (rsE 77 74 cols rs_)).own k_ ∨ (row Aq cq_.length cp (cf actD cq_) 58 2).own k_) W55
              refine t_q (n := 12) 0 (.pointer (some ⟨g42, 0, none⟩)) rfl (by kernel_rfl) (by kernel_rfl) (fun _ _ _ h => h) (fun w' hk => (by kernel_rfl)) HK ?_
              refine t_q (n := 11) 1 (.agg #[.int .i64 rows, .int .i64 cols, .slice Aq cq_.length cp]) rfl (by kernel_rfl) (by kernel_rfl) (fun _ _ _ h => h) (fun w' hk => (R_loadN (p := ⟨g48, 0, none⟩) [.int .i64 rows, .int .i64 cols, .slice Aq cq_.length cp] (by kernel_rfl) (by kernel_rfl) (by kernel_rfl) (by kernel_rfl) (three_at (hk.cellN (fun h_ => h_.elim (HV.sepB (a := 3) (b := 0) (by decide) rfl rfl) (fun h_ => h_.elim (HV.sepB (a := 3) (b := 1) (by decide) rfl rfl) (fun h_ => h_.elim (HV.sepB (a := 3) (b := 2) (by decide) rfl rfl) (HV.sepB (a := 3) (b := 4) (by decide) rfl rfl)))) (HV.cell (i := 3) (j := 0) rfl rfl)) (hk.cellN (fun h_ => h_.elim (HV.sepB (a := 3) (b := 0) (by decide) rfl rfl) (fun h_ => h_.elim (HV.sepB (a := 3) (b := 1) (by decide) rfl rfl) (fun h_ => h_.elim (HV.sepB (a := 3) (b := 2) (by decide) rfl rfl) (HV.sepB (a := 3) (b := 4) (by decide) rfl rfl)))) (HV.cell (i := 3) (j := 1) rfl rfl)) (hk.cellN (fun h_ => h_.elim (HV.sepB (a := 3) (b := 0) (by decide) rfl rfl) (fun h_ => h_.elim (HV.sepB (a := 3) (b := 1) (by decide) rfl rfl) (fun h_ => h_.elim (HV.sepB (a := 3) (b := 2) (by decide) rfl rfl) (HV.sepB (a := 3) (b := 4) (by decide) rfl rfl)))) (HV.cell (i := 3) (j := 2) rfl rfl))))) HK ?_
              refine t_q (n := 10) 2 (.slice Al l.length cl) rfl (by kernel_rfl) (by kernel_rfl) (fun _ _ _ h => h) (fun w' hk => (by kernel_rfl)) HK ?_
              refine t_q (n := 9) 3 (.int .i64 k) rfl (by kernel_rfl) (by kernel_rfl) (fun _ _ _ h => h) (fun w' hk => (by kernel_rfl)) HK ?_
              obtain ⟨ad56, rfl⟩ := Rd.isSome_ hra (by rw [cf_len (z := 3) (fun _ => rfl)]; omega)
              refine t_q (n := 8) 4 (.pointer (some (ad56.add (k.toNat * 3)))) rfl (by kernel_rfl) (by kernel_rfl) (fun _ _ _ h => h) (fun w' hk => (R_indexA (k := .i64) (p := ad56) (n := l.length) (c := cl) (i := k) (by kernel_rfl) (by kernel_rfl) Tryd.underlying40 (by kernel_rfl) (by omega) (by omega))) HK ?_
              refine t_q (n := 7) 5 (.agg #[.int .i64 ((gx l k).1), .int .i64 ((gx l k).2.1), .int .i64 ((gx l k).2.2)]) rfl (by kernel_rfl) (by kernel_rfl) (fun _ _ _ h => h) (fun w' hk => (R_loadN (p := ad56.add (k.toNat * 3)) [.int .i64 ((gx l k).1), .int .i64 ((gx l k).2.1), .int .i64 ((gx l k).2.2)] (by kernel_rfl) (by kernel_rfl) (by kernel_rfl) (by kernel_rfl) (fun j_ v_ hv_ => (hk.cellN (fun h_ => h_.elim (HV.oldSep (i := 0) rfl ((Rd.elem (f := actT) (fun _ => rfl) hra (gx_eq (by omega) (by omega))) j_ v_ hv_)) (fun h_ => h_.elim (HV.oldSep (i := 1) rfl ((Rd.elem (f := actT) (fun _ => rfl) hra (gx_eq (by omega) (by omega))) j_ v_ hv_)) (fun h_ => h_.elim (HV.oldSep (i := 2) rfl ((Rd.elem (f := actT) (fun _ => rfl) hra (gx_eq (by omega) (by omega))) j_ v_ hv_)) (HV.oldSep (i := 4) rfl ((Rd.elem (f := actT) (fun _ => rfl) hra (gx_eq (by omega) (by omega))) j_ v_ hv_))))) (HV.old0 ((Rd.elem (f := actT) (fun _ => rfl) hra (gx_eq (by omega) (by omega))) j_ v_ hv_)))))) HK ?_
              refine t_pick2 (n := 6) 6 10 (by kernel_rfl) ?_ ?_
              · skip
                refine t_c2 (n := 6) 6 (f := 25) (args := #[.pointer (some ⟨g42, 0, none⟩), .agg #[.int .i64 rows, .int .i64 cols, .slice Aq cq_.length cp], .agg #[.int .i64 ((gx l k).1), .int .i64 ((gx l k).2.1), .int .i64 ((gx l k).2.2)]]) rfl (by kernel_rfl) (R_call #[.pointer (some ⟨g42, 0, none⟩), .agg #[.int .i64 rows, .int .i64 cols, .slice Aq cq_.length cp], .agg #[.int .i64 ((gx l k).1), .int .i64 ((gx l k).2.1), .int .i64 ((gx l k).2.2)]] Tryd.func25 (by kernel_rfl) (by kernel_rfl) (by kernel_rfl)) ?_
                replace HS : St W (owns []) W55 [blk g42 [.slice (some ⟨a43, 0, none⟩) rs_.length cr44, .int .i64 cols] 87, row (some ⟨a43, 0, none⟩) rs_.length cr44 (cf cpt rs_) 32 1, many (rsE 77 74 cols rs_), row Aq cq_.length cp (cf actD cq_) 58 2, blk g48 [.int .i64 rows, .int .i64 cols, .slice Aq cq_.length cp] 46] := HS.perm (perm_ [0, 1, 2, 4, 3] (by kernel_rfl) rfl)
                refine (c6does g42 cr44 (some ⟨a43, 0, none⟩) cols rs_ Ls_ Aq cp cq_ rows (gx l k).1 (gx l k).2.1 (gx l k).2.2 _ _ (St.focus (F := [blk g42 [.slice (some ⟨a43, 0, none⟩) rs_.length cr44, .int .i64 cols] 87, row (some ⟨a43, 0, none⟩) rs_.length cr44 (cf cpt rs_) 32 1, many (rsE 77 74 cols rs_), row Aq cq_.length cp (cf actD cq_) 58 2]) HS) hRk hMk hlk (by omega) (by omega) (by omega)).mono ?_
                rintro e W64 ⟨rs57, A58, c59, cq60, Ls61, rfl, H_, hR62, hM63, hlrs57⟩
                have hkf_ : ∀ k_, owns [blk g42 [.slice (some ⟨a43, 0, none⟩) rs_.length cr44, .int .i64 cols] 87, row (some ⟨a43, 0, none⟩) rs_.length cr44 (cf cpt rs_) 32 1, many (rsE 77 74 cols rs_), row Aq cq_.length cp (cf actD cq_) 58 2] k_ → (blk g42 [.slice (some ⟨a43, 0, none⟩) rs_.length cr44, .int .i64 cols] 87).own k_ ∨ (row (some ⟨a43, 0, none⟩) rs_.length cr44 (cf cpt rs_) 32 1).own k_ ∨ (many (rsE 77 74 cols rs_)).own k_ ∨ (row Aq cq_.length cp (cf actD cq_) 58 2).own k_ := by
                  intro k_ h_; obtain ⟨e_, he_, ho_⟩ := h_; simp only [List.mem_cons, List.not_mem_nil, or_false] at he_; rcases he_ with rfl | rfl | rfl | rfl <;> first | exact (.inl ho_) | exact (.inr (.inl ho_)) | exact (.inr (.inr (.inl ho_))) | exact (.inr (.inr (.inr ho_)))
                refine ⟨_, rfl, HK.trans H_.kept (fun _ h_ => .inl (hkf_ _ h_)), ?_⟩
                replace HK := HK.trans H_.kept (fun _ h_ => .inl (hkf_ _ h_))
                replace HS : St W (owns []) W64 [blk g42 [.slice (some ⟨a43, 0, none⟩) rs57.length cr44, .int .i64 cols] 87, row (some ⟨a43, 0, none⟩) rs57.length cr44 (cf cpt rs57) 32 1, many (rsE 77 74 cols rs57), row A58 cq60.length c59 (cf actD cq60) 58 2, blk g48 [.int .i64 rows, .int .i64 cols, .slice Aq cq_.length cp] 46] := HS.join (F := [blk g42 [.slice (some ⟨a43, 0, none⟩) rs_.length cr44, .int .i64 cols] 87, row (some ⟨a43, 0, none⟩) rs_.length cr44 (cf cpt rs_) 32 1, many (rsE 77 74 cols rs_), row Aq cq_.length cp (cf actD cq_) 58 2]) (G := [blk g42 [.slice (some ⟨a43, 0, none⟩) rs57.length cr44, .int .i64 cols] 87, row (some ⟨a43, 0, none⟩) rs57.length cr44 (cf cpt rs57) 32 1, many (rsE 77 74 cols rs57), row A58 cq60.length c59 (cf actD cq60) 58 2]) H_
                clear H_
                have hsb := hR62.srt_
                have hnb := hM63.cnt
                have hcb := cnt_srt hsb (by omega)
                have hmb : cols.toNat * Ls61.length ≤ 40000 := Nat.mul_le_mul (by omega : cols.toNat ≤ 200) (by have := hR62.len; omega : Ls61.length ≤ 200)
                have hLb := hR62.len
                refine t_q (n := 5) 7 (.tuple #[.agg #[.int .i64 rows, .int .i64 cols, .slice A58 cq60.length c59], .bool true]) rfl (by kernel_rfl) (by kernel_rfl) (fun _ _ _ h => h) (fun w' hk => (by kernel_rfl)) HK ?_
                refine t_q (n := 4) 8 (.agg #[.int .i64 rows, .int .i64 cols, .slice A58 cq60.length c59]) rfl (by kernel_rfl) (by kernel_rfl) (fun _ _ _ h => h) (fun w' hk => (by kernel_rfl)) HK ?_
                refine t_q (n := 3) 9 (.bool true) rfl (by kernel_rfl) (by kernel_rfl) (fun _ _ _ h => h) (fun w' hk => (by kernel_rfl)) HK ?_
                obtain ⟨g65, W66, hg_, hw_, H_, hk_⟩ := ex_blk HS [.int .i64 0, .int .i64 0, .slice none 0 0] 46
                have hv_g65 := Nat.le_trans HK.size (Nat.le_of_eq (Eq.symm hg_))
                refine t_e (n := 2) 10 (.pointer (some ⟨g65, 0, none⟩)) rfl (by kernel_rfl) (by kernel_rfl) (by subst hg_; subst hw_; kernel_rfl) (HK.tr hk_) ?_
                replace HK := HK.tr hk_
                clear hk_
                clear hg_ hw_
                replace HS : St W (owns []) W66 [blk g65 [.int .i64 0, .int .i64 0, .slice none 0 0] 46, blk g42 [.slice (some ⟨a43, 0, none⟩) rs57.length cr44, .int .i64 cols] 87, row (some ⟨a43, 0, none⟩) rs57.length cr44 (cf cpt rs57) 32 1, many (rsE 77 74 cols rs57), row A58 cq60.length c59 (cf actD cq60) 58 2, blk g48 [.int .i64 rows, .int .i64 cols, .slice Aq cq_.length cp] 46] := H_
                clear H_
                obtain ⟨W67, hrun_, H_, hk_⟩ := ex_ks (P := Tryd.prog) (ty := 0) (ps := "law.go:51") (af := #[{ on := 10, ground := Go.Ground.data }, { on := 8, ground := Go.Ground.data }, { on := 6, ground := Go.Ground.chain }, { on := 0, ground := Go.Ground.phase }, { on := 1, ground := Go.Ground.phase }, { on := 2, ground := Go.Ground.phase }, { on := 3, ground := Go.Ground.phase }, { on := 4, ground := Go.Ground.phase }, { on := 5, ground := Go.Ground.phase }, { on := 6, ground := Go.Ground.phase }, { on := 7, ground := Go.Ground.phase }, { on := 8, ground := Go.Ground.phase }, { on := 9, ground := (Go.Ground.textOnly Go.Departure.lateStores) }, { on := 10, ground := Go.Ground.phase }]) (gd := none) (t := 46) (x := (Go.Operand.tmp 15)) (y := (Go.Operand.tmp 96)) (v := .agg #[.int .i64 rows, .int .i64 cols, .slice A58 cq60.length c59]) HS 0 rfl (0) [.int .i64 rows, .int .i64 cols, .slice A58 cq60.length c59] (by kernel_rfl) (by kernel_rfl) (by kernel_rfl) (by kernel_rfl) (one_ (by kernel_rfl)) (Nat.le_of_ble_eq_true rfl)
                replace HK := HK.trans hk_ (fun _ h_ => .inr (Nat.le_trans hv_g65 (Nat.le_of_eq (Eq.symm h_))))
                refine t_s (n := 1) 11 rfl (by kernel_rfl) (by kernel_rfl) hrun_ HK ?_
                clear hk_ hrun_
                replace HS : St W (owns []) W67 [blk g65 [.int .i64 rows, .int .i64 cols, .slice A58 cq60.length c59] 46, blk g42 [.slice (some ⟨a43, 0, none⟩) rs57.length cr44, .int .i64 cols] 87, row (some ⟨a43, 0, none⟩) rs57.length cr44 (cf cpt rs57) 32 1, many (rsE 77 74 cols rs57), row A58 cq60.length c59 (cf actD cq60) 58 2, blk g48 [.int .i64 rows, .int .i64 cols, .slice Aq cq_.length cp] 46] := H_
                clear H_
                refine t_q (n := 0) 12 (.bool true) rfl (by kernel_rfl) (by kernel_rfl) (fun _ _ _ h => h) (fun w' hk => (by kernel_rfl)) HK ?_
                refine t_done (by kernel_rfl) ?_
                clear HV HK
                refine x_then ?_
                refine wp_seq ?_
                refine wp_region_lit ?_
                refine ql (.agg #[.int .i64 rows, .int .i64 cols, .slice A58 cq60.length c59]) (by kernel_rfl) (R_loadN (p := ⟨g65, 0, none⟩) [.int .i64 rows, .int .i64 cols, .slice A58 cq60.length c59] (by kernel_rfl) (by kernel_rfl) (by kernel_rfl) (by kernel_rfl) (three_at (HS.cell (i := 0) (j := 0) rfl rfl) (HS.cell (i := 0) (j := 1) rfl rfl) (HS.cell (i := 0) (j := 2) rfl rfl))) ?_
                refine ks (v := .agg #[.int .i64 rows, .int .i64 cols, .slice A58 cq60.length c59]) HS 5 rfl (0) [.int .i64 rows, .int .i64 cols, .slice A58 cq60.length c59] (by kernel_rfl) (by kernel_rfl) (by kernel_rfl) (by kernel_rfl) (by kernel_rfl) (one_ (by kernel_rfl)) (Nat.le_of_ble_eq_true rfl) rfl ?_
                intro W68 H_
                replace HS : St W (owns []) W68 [blk g65 [.int .i64 rows, .int .i64 cols, .slice A58 cq60.length c59] 46, blk g42 [.slice (some ⟨a43, 0, none⟩) rs57.length cr44, .int .i64 cols] 87, row (some ⟨a43, 0, none⟩) rs57.length cr44 (cf cpt rs57) 32 1, many (rsE 77 74 cols rs57), row A58 cq60.length c59 (cf actD cq60) 58 2, blk g48 [.int .i64 rows, .int .i64 cols, .slice A58 cq60.length c59] 46] := H_
                clear H_
                refine wpList_nil ?_
                refine x_then ?_
                refine wp_seq ?_
                refine t_start HS (fun _ => False) 53 (by kernel_rfl) rfl ?_
                intro W69 H_ HD_
                clear HD_
                replace HS : St W (owns []) W69 [blk g65 [.int .i64 rows, .int .i64 cols, .slice A58 cq60.length c59] 46, blk g42 [.slice (some ⟨a43, 0, none⟩) rs57.length cr44, .int .i64 cols] 87, row (some ⟨a43, 0, none⟩) rs57.length cr44 (cf cpt rs57) 32 1, many (rsE 77 74 cols rs57), row A58 cq60.length c59 (cf actD cq60) 58 2, blk g48 [.int .i64 rows, .int .i64 cols, .slice A58 cq60.length c59] 46] := H_
                clear H_
                have HV := HS
                have HK := Kpt.refl (fun _ => False) W69
                refine t_q (n := 52) 0 (.bool true) rfl (by kernel_rfl) (by kernel_rfl) (fun _ _ _ h => h) (fun w' hk => (by kernel_rfl)) HK ?_
                refine t_q (n := 51) 1 (.bool false) rfl (by kernel_rfl) (by kernel_rfl) (fun _ _ _ h => h) (fun w' hk => (by kernel_rfl)) HK ?_
                refine t_q (n := 50) 2 (.bool false) rfl (by kernel_rfl) (by kernel_rfl) (fun _ _ _ h => h) (fun w' hk => (by kernel_rfl)) HK ?_
                refine t_q (n := 49) 3 (.pointer (some ⟨g42, 0, none⟩)) rfl (by kernel_rfl) (by kernel_rfl) (fun _ _ _ h => h) (fun w' hk => (by kernel_rfl)) HK ?_
                refine t_q (n := 48) 5 (.int .i64 rows) rfl (by kernel_rfl) (by kernel_rfl) (fun _ _ _ h => h) (fun w' hk => (by kernel_rfl)) HK ?_
                refine t_c (n := 47) 4 (f := 26) (args := #[.pointer (some ⟨g42, 0, none⟩)]) rfl (by kernel_rfl) (by kernel_rfl) (R_call #[.pointer (some ⟨g42, 0, none⟩)] Tryd.func26 (by kernel_rfl) (by kernel_rfl) (by kernel_rfl)) ?_
                refine (mrows g42 cr44 (some ⟨a43, 0, none⟩) cols rs57 Ls61 _ (Mr.of HS (i := 1) (j := 2) (m := 3) rfl rfl rfl) hR62 (by omega) (by omega)).mono ?_
                rintro e W70 ⟨rfl, H_⟩
                refine ⟨_, rfl, HK.tr H_.kept.nil, ?_⟩
                replace HK := HK.tr H_.kept.nil
                replace HS : St W (owns []) W70 [blk g65 [.int .i64 rows, .int .i64 cols, .slice A58 cq60.length c59] 46, blk g42 [.slice (some ⟨a43, 0, none⟩) rs57.length cr44, .int .i64 cols] 87, row (some ⟨a43, 0, none⟩) rs57.length cr44 (cf cpt rs57) 32 1, many (rsE 77 74 cols rs57), row A58 cq60.length c59 (cf actD cq60) 58 2, blk g48 [.int .i64 rows, .int .i64 cols, .slice A58 cq60.length c59] 46] := HS.join (F := []) (G := []) H_
                clear H_
                refine t_q (n := 46) 6 (.bool false) rfl (by kernel_rfl) (by kernel_rfl) (fun _ _ _ h => h) (fun w' hk => (R_beq (b := ((rs57.length : Int) != rows)) (by kernel_rfl) (bne_f (by omega)))) HK ?_
                refine t_q (n := 45) 7 (.bool false) rfl (by kernel_rfl) (by kernel_rfl) (fun _ _ _ h => h) (fun w' hk => (by kernel_rfl)) HK ?_
                refine t_q (n := 44) 8 (.bool false) rfl (by kernel_rfl) (by kernel_rfl) (fun _ _ _ h => h) (fun w' hk => (by kernel_rfl)) HK ?_
                refine t_q (n := 43) 9 (.pointer (some ⟨g42, 0, none⟩)) rfl (by kernel_rfl) (by kernel_rfl) (fun _ _ _ h => h) (fun w' hk => (by kernel_rfl)) HK ?_
                refine t_q (n := 42) 11 (.int .i64 cols) rfl (by kernel_rfl) (by kernel_rfl) (fun _ _ _ h => h) (fun w' hk => (by kernel_rfl)) HK ?_
                refine t_c (n := 41) 10 (f := 27) (args := #[.pointer (some ⟨g42, 0, none⟩)]) rfl (by kernel_rfl) (by kernel_rfl) (R_call #[.pointer (some ⟨g42, 0, none⟩)] Tryd.func27 (by kernel_rfl) (by kernel_rfl) (by kernel_rfl)) ?_
                refine (mcols g42 cr44 (some ⟨a43, 0, none⟩) cols rs57 Ls61 _ (Mr.of HS (i := 1) (j := 2) (m := 3) rfl rfl rfl) hR62 (by omega) (by omega)).mono ?_
                rintro e W71 ⟨rfl, H_⟩
                refine ⟨_, rfl, HK.tr H_.kept.nil, ?_⟩
                replace HK := HK.tr H_.kept.nil
                replace HS : St W (owns []) W71 [blk g65 [.int .i64 rows, .int .i64 cols, .slice A58 cq60.length c59] 46, blk g42 [.slice (some ⟨a43, 0, none⟩) rs57.length cr44, .int .i64 cols] 87, row (some ⟨a43, 0, none⟩) rs57.length cr44 (cf cpt rs57) 32 1, many (rsE 77 74 cols rs57), row A58 cq60.length c59 (cf actD cq60) 58 2, blk g48 [.int .i64 rows, .int .i64 cols, .slice A58 cq60.length c59] 46] := HS.join (F := []) (G := []) H_
                clear H_
                refine t_q (n := 40) 12 (.bool false) rfl (by kernel_rfl) (by kernel_rfl) (fun _ _ _ h => h) (fun w' hk => (R_beq (b := (cols != cols)) (by kernel_rfl) (bne_f (by omega)))) HK ?_
                refine t_q (n := 39) 13 (.bool false) rfl (by kernel_rfl) (by kernel_rfl) (fun _ _ _ h => h) (fun w' hk => (by kernel_rfl)) HK ?_
                refine t_q (n := 38) 14 (.bool false) rfl (by kernel_rfl) (by kernel_rfl) (fun _ _ _ h => h) (fun w' hk => (by kernel_rfl)) HK ?_
                refine t_q (n := 37) 15 (.pointer (some ⟨g42, 0, none⟩)) rfl (by kernel_rfl) (by kernel_rfl) (fun _ _ _ h => h) (fun w' hk => (by kernel_rfl)) HK ?_
                refine t_q (n := 36) 16 (.int .i64 r) rfl (by kernel_rfl) (by kernel_rfl) (fun _ _ _ h => h) (fun w' hk => (by kernel_rfl)) HK ?_
                refine t_q (n := 35) 17 (.int .i64 c) rfl (by kernel_rfl) (by kernel_rfl) (fun _ _ _ h => h) (fun w' hk => (by kernel_rfl)) HK ?_
                refine t_q (n := 34) 19 (.agg #[.int .i64 rows, .int .i64 cols, .slice A58 cq60.length c59]) rfl (by kernel_rfl) (by kernel_rfl) (fun _ _ _ h => h) (fun w' hk => (R_loadN (p := ⟨g48, 0, none⟩) [.int .i64 rows, .int .i64 cols, .slice A58 cq60.length c59] (by kernel_rfl) (by kernel_rfl) (by kernel_rfl) (by kernel_rfl) (three_at (hk.cell (HV.cell (i := 5) (j := 0) rfl rfl)) (hk.cell (HV.cell (i := 5) (j := 1) rfl rfl)) (hk.cell (HV.cell (i := 5) (j := 2) rfl rfl))))) HK ?_
                refine t_q (n := 33) 20 (.int .i64 r) rfl (by kernel_rfl) (by kernel_rfl) (fun _ _ _ h => h) (fun w' hk => (by kernel_rfl)) HK ?_
                refine t_q (n := 32) 21 (.int .i64 c) rfl (by kernel_rfl) (by kernel_rfl) (fun _ _ _ h => h) (fun w' hk => (by kernel_rfl)) HK ?_
                refine t_c (n := 31) 18 (f := 28) (args := #[.pointer (some ⟨g42, 0, none⟩), .int .i64 r, .int .i64 c]) rfl (by kernel_rfl) (by kernel_rfl) (R_call #[.pointer (some ⟨g42, 0, none⟩), .int .i64 r, .int .i64 c] Tryd.func28 (by kernel_rfl) (by kernel_rfl) (by kernel_rfl)) ?_
                refine (mhas g42 cr44 (some ⟨a43, 0, none⟩) cols rs57 Ls61 r c _ (Mr.of HS (i := 1) (j := 2) (m := 3) rfl rfl rfl) hR62 (by omega) (by omega)).mono ?_
                rintro e W72 ⟨rfl, H_⟩
                refine ⟨_, rfl, HK.tr H_.kept.nil, ?_⟩
                replace HK := HK.tr H_.kept.nil
                replace HS : St W (owns []) W72 [blk g65 [.int .i64 rows, .int .i64 cols, .slice A58 cq60.length c59] 46, blk g42 [.slice (some ⟨a43, 0, none⟩) rs57.length cr44, .int .i64 cols] 87, row (some ⟨a43, 0, none⟩) rs57.length cr44 (cf cpt rs57) 32 1, many (rsE 77 74 cols rs57), row A58 cq60.length c59 (cf actD cq60) 58 2, blk g48 [.int .i64 rows, .int .i64 cols, .slice A58 cq60.length c59] 46] := HS.join (F := []) (G := []) H_
                clear H_
                refine t_c (n := 30) 22 (f := 29) (args := #[.agg #[.int .i64 rows, .int .i64 cols, .slice A58 cq60.length c59], .int .i64 r, .int .i64 c]) rfl (by kernel_rfl) (by kernel_rfl) (R_call #[.agg #[.int .i64 rows, .int .i64 cols, .slice A58 cq60.length c59], .int .i64 r, .int .i64 c] Tryd.func29 (by kernel_rfl) (by kernel_rfl) (by kernel_rfl)) ?_
                refine (c6has A58 c59 cq60 rows cols r c _ (Rd.row HS (i := 4) rfl) (by omega)).mono ?_
                rintro e W73 ⟨rfl, H_⟩
                rw [show decide ((r, c) ∈ cq60) = decide (c ∈ rowL Ls61 r) from decide_eq_decide.2 (hM63.mem r c)]
                refine ⟨_, rfl, HK.tr H_.kept.nil, ?_⟩
                replace HK := HK.tr H_.kept.nil
                replace HS : St W (owns []) W73 [blk g65 [.int .i64 rows, .int .i64 cols, .slice A58 cq60.length c59] 46, blk g42 [.slice (some ⟨a43, 0, none⟩) rs57.length cr44, .int .i64 cols] 87, row (some ⟨a43, 0, none⟩) rs57.length cr44 (cf cpt rs57) 32 1, many (rsE 77 74 cols rs57), row A58 cq60.length c59 (cf actD cq60) 58 2, blk g48 [.int .i64 rows, .int .i64 cols, .slice A58 cq60.length c59] 46] := HS.join (F := []) (G := []) H_
                clear H_
                refine t_q (n := 29) 23 (.bool false) rfl (by kernel_rfl) (by kernel_rfl) (fun _ _ _ h => h) (fun w' hk => (R_beq (b := ((decide (c ∈ rowL Ls61 r)) != (decide (c ∈ rowL Ls61 r)))) (by kernel_rfl) (bne_same _))) HK ?_
                refine t_q (n := 28) 24 (.bool false) rfl (by kernel_rfl) (by kernel_rfl) (fun _ _ _ h => h) (fun w' hk => (by kernel_rfl)) HK ?_
                refine t_q (n := 27) 25 (.bool false) rfl (by kernel_rfl) (by kernel_rfl) (fun _ _ _ h => h) (fun w' hk => (by kernel_rfl)) HK ?_
                refine t_q (n := 26) 26 (.pointer (some ⟨g42, 0, none⟩)) rfl (by kernel_rfl) (by kernel_rfl) (fun _ _ _ h => h) (fun w' hk => (by kernel_rfl)) HK ?_
                refine t_q (n := 25) 28 (.pointer (some ⟨g48, 2, none⟩)) rfl (by kernel_rfl) (by kernel_rfl) (fun _ _ _ h => h) (fun w' hk => (by kernel_rfl)) HK ?_
                refine t_q (n := 24) 29 (.slice A58 cq60.length c59) rfl (by kernel_rfl) (by kernel_rfl) (fun _ _ _ h => h) (fun w' hk => (R_load (p := ⟨g48, 2, none⟩) (by kernel_rfl) (by kernel_rfl) (by kernel_rfl) (hk.cell (HV.cell (i := 5) (j := 2) rfl rfl)))) HK ?_
                refine t_q (n := 23) 30 (.int .i64 (cq60.length : Int)) rfl (by kernel_rfl) (by kernel_rfl) (fun _ _ _ h => h) (fun w' hk => (by kernel_rfl)) HK ?_
                refine t_c (n := 22) 27 (f := 30) (args := #[.pointer (some ⟨g42, 0, none⟩)]) rfl (by kernel_rfl) (by kernel_rfl) (R_call #[.pointer (some ⟨g42, 0, none⟩)] Tryd.func30 (by kernel_rfl) (by kernel_rfl) (by kernel_rfl)) ?_
                refine (mcount g42 cr44 (some ⟨a43, 0, none⟩) cols rs57 Ls61 _ (Mr.of HS (i := 1) (j := 2) (m := 3) rfl rfl rfl) hR62 (by omega) (by omega)).mono ?_
                rintro e W74 ⟨rfl, H_⟩
                refine ⟨_, rfl, HK.tr H_.kept.nil, ?_⟩
                replace HK := HK.tr H_.kept.nil
                replace HS : St W (owns []) W74 [blk g65 [.int .i64 rows, .int .i64 cols, .slice A58 cq60.length c59] 46, blk g42 [.slice (some ⟨a43, 0, none⟩) rs57.length cr44, .int .i64 cols] 87, row (some ⟨a43, 0, none⟩) rs57.length cr44 (cf cpt rs57) 32 1, many (rsE 77 74 cols rs57), row A58 cq60.length c59 (cf actD cq60) 58 2, blk g48 [.int .i64 rows, .int .i64 cols, .slice A58 cq60.length c59] 46] := HS.join (F := []) (G := []) H_
                clear H_
                refine t_q (n := 21) 31 (.bool false) rfl (by kernel_rfl) (by kernel_rfl) (fun _ _ _ h => h) (fun w' hk => (R_beq (b := ((cntL Ls61 : Int) != (cq60.length : Int))) (by kernel_rfl) (bne_f (by omega)))) HK ?_
                refine t_q (n := 20) 32 (.bool false) rfl (by kernel_rfl) (by kernel_rfl) (fun _ _ _ h => h) (fun w' hk => (by kernel_rfl)) HK ?_
                refine t_q (n := 19) 33 (.bool false) rfl (by kernel_rfl) (by kernel_rfl) (fun _ _ _ h => h) (fun w' hk => (by kernel_rfl)) HK ?_
                refine t_q (n := 18) 34 (.pointer (some ⟨g42, 0, none⟩)) rfl (by kernel_rfl) (by kernel_rfl) (fun _ _ _ h => h) (fun w' hk => (by kernel_rfl)) HK ?_
                refine t_q (n := 17) 35 (.int .i64 r) rfl (by kernel_rfl) (by kernel_rfl) (fun _ _ _ h => h) (fun w' hk => (by kernel_rfl)) HK ?_
                refine t_q (n := 16) 37 (.agg #[.int .i64 rows, .int .i64 cols, .slice A58 cq60.length c59]) rfl (by kernel_rfl) (by kernel_rfl) (fun _ _ _ h => h) (fun w' hk => (R_loadN (p := ⟨g48, 0, none⟩) [.int .i64 rows, .int .i64 cols, .slice A58 cq60.length c59] (by kernel_rfl) (by kernel_rfl) (by kernel_rfl) (by kernel_rfl) (three_at (hk.cell (HV.cell (i := 5) (j := 0) rfl rfl)) (hk.cell (HV.cell (i := 5) (j := 1) rfl rfl)) (hk.cell (HV.cell (i := 5) (j := 2) rfl rfl))))) HK ?_
                refine t_q (n := 15) 38 (.int .i64 r) rfl (by kernel_rfl) (by kernel_rfl) (fun _ _ _ h => h) (fun w' hk => (by kernel_rfl)) HK ?_
                refine t_c (n := 14) 36 (f := 32) (args := #[.pointer (some ⟨g42, 0, none⟩), .int .i64 r]) rfl (by kernel_rfl) (by kernel_rfl) (R_call #[.pointer (some ⟨g42, 0, none⟩), .int .i64 r] Tryd.func32 (by kernel_rfl) (by kernel_rfl) (by kernel_rfl)) ?_
                have hrl := hR62.rlen (r := r) (by omega)
                refine (mlist g42 cr44 (some ⟨a43, 0, none⟩) cols rs57 Ls61 r _ (Mr.of HS (i := 1) (j := 2) (m := 3) rfl rfl rfl) hR62 (by omega) (by omega) (hT.old0 HS)).mono ?_
                rintro e W77 ⟨A75, c76, rfl, H_⟩
                refine ⟨_, rfl, HK.tr H_.kept.nil, ?_⟩
                replace HK := HK.tr H_.kept.nil
                replace HS : St W (owns []) W77 [row A75 ((rowL Ls61 r).length) c76 (ci .i64 (rowL Ls61 r)) 3 1, blk g65 [.int .i64 rows, .int .i64 cols, .slice A58 cq60.length c59] 46, blk g42 [.slice (some ⟨a43, 0, none⟩) rs57.length cr44, .int .i64 cols] 87, row (some ⟨a43, 0, none⟩) rs57.length cr44 (cf cpt rs57) 32 1, many (rsE 77 74 cols rs57), row A58 cq60.length c59 (cf actD cq60) 58 2, blk g48 [.int .i64 rows, .int .i64 cols, .slice A58 cq60.length c59] 46] := HS.join (F := []) (G := [row A75 ((rowL Ls61 r).length) c76 (ci .i64 (rowL Ls61 r)) 3 1]) H_
                clear H_
                refine t_c (n := 13) 39 (f := 33) (args := #[.agg #[.int .i64 rows, .int .i64 cols, .slice A58 cq60.length c59], .int .i64 r]) rfl (by kernel_rfl) (by kernel_rfl) (R_call #[.agg #[.int .i64 rows, .int .i64 cols, .slice A58 cq60.length c59], .int .i64 r] Tryd.func33 (by kernel_rfl) (by kernel_rfl) (by kernel_rfl)) ?_
                have hrw : rowC cq60 r cols = (rowL Ls61 r) := hM63.row hsb
                refine (c6row A58 c59 cq60 rows cols r _ (Rd.row HS (i := 5) rfl) (by omega) (by omega) (by omega)).mono ?_
                rintro e W80 ⟨A78, c79, rfl, H_⟩
                rw [hrw] at H_
                rw [hrw]
                refine ⟨_, rfl, HK.tr H_.kept.nil, ?_⟩
                replace HK := HK.tr H_.kept.nil
                replace HS : St W (owns []) W80 [row A78 ((rowL Ls61 r).length) c79 (ci .i64 (rowL Ls61 r)) 3 1, row A75 ((rowL Ls61 r).length) c76 (ci .i64 (rowL Ls61 r)) 3 1, blk g65 [.int .i64 rows, .int .i64 cols, .slice A58 cq60.length c59] 46, blk g42 [.slice (some ⟨a43, 0, none⟩) rs57.length cr44, .int .i64 cols] 87, row (some ⟨a43, 0, none⟩) rs57.length cr44 (cf cpt rs57) 32 1, many (rsE 77 74 cols rs57), row A58 cq60.length c59 (cf actD cq60) 58 2, blk g48 [.int .i64 rows, .int .i64 cols, .slice A58 cq60.length c59] 46] := HS.join (F := []) (G := [row A78 ((rowL Ls61 r).length) c79 (ci .i64 (rowL Ls61 r)) 3 1]) H_
                clear H_
                refine t_c (n := 12) 40 (f := 31) (args := #[.slice A75 ((rowL Ls61 r).length) c76, .slice A78 ((rowL Ls61 r).length) c79]) rfl (by kernel_rfl) (by kernel_rfl) (R_call #[.slice A75 ((rowL Ls61 r).length) c76, .slice A78 ((rowL Ls61 r).length) c79] Tryd.func31 (by kernel_rfl) (by kernel_rfl) (by kernel_rfl)) ?_
                refine (r1same A75 A78 c76 c79 (rowL Ls61 r) (rowL Ls61 r) _ (Rd.row HS (i := 1) rfl) (by omega) (Rd.row HS (i := 0) rfl) (by omega)).mono ?_
                rintro e W81 ⟨rfl, H_⟩
                rw [decide_eq_true (rfl : (rowL Ls61 r) = (rowL Ls61 r))]
                refine ⟨_, rfl, HK.tr H_.kept.nil, ?_⟩
                replace HK := HK.tr H_.kept.nil
                replace HS : St W (owns []) W81 [row A78 ((rowL Ls61 r).length) c79 (ci .i64 (rowL Ls61 r)) 3 1, row A75 ((rowL Ls61 r).length) c76 (ci .i64 (rowL Ls61 r)) 3 1, blk g65 [.int .i64 rows, .int .i64 cols, .slice A58 cq60.length c59] 46, blk g42 [.slice (some ⟨a43, 0, none⟩) rs57.length cr44, .int .i64 cols] 87, row (some ⟨a43, 0, none⟩) rs57.length cr44 (cf cpt rs57) 32 1, many (rsE 77 74 cols rs57), row A58 cq60.length c59 (cf actD cq60) 58 2, blk g48 [.int .i64 rows, .int .i64 cols, .slice A58 cq60.length c59] 46] := HS.join (F := []) (G := []) H_
                clear H_
                refine t_q (n := 11) 41 (.bool false) rfl (by kernel_rfl) (by kernel_rfl) (fun _ _ _ h => h) (fun w' hk => (by kernel_rfl)) HK ?_
                refine t_q (n := 10) 42 (.bool false) rfl (by kernel_rfl) (by kernel_rfl) (fun _ _ _ h => h) (fun w' hk => (by kernel_rfl)) HK ?_
                refine t_q (n := 9) 43 (.bool false) rfl (by kernel_rfl) (by kernel_rfl) (fun _ _ _ h => h) (fun w' hk => (by kernel_rfl)) HK ?_
                refine t_q (n := 8) 44 (.pointer (some ⟨g42, 0, none⟩)) rfl (by kernel_rfl) (by kernel_rfl) (fun _ _ _ h => h) (fun w' hk => (by kernel_rfl)) HK ?_
                refine t_q (n := 7) 45 (.int .i64 c) rfl (by kernel_rfl) (by kernel_rfl) (fun _ _ _ h => h) (fun w' hk => (by kernel_rfl)) HK ?_
                refine t_q (n := 6) 47 (.agg #[.int .i64 rows, .int .i64 cols, .slice A58 cq60.length c59]) rfl (by kernel_rfl) (by kernel_rfl) (fun _ _ _ h => h) (fun w' hk => (R_loadN (p := ⟨g48, 0, none⟩) [.int .i64 rows, .int .i64 cols, .slice A58 cq60.length c59] (by kernel_rfl) (by kernel_rfl) (by kernel_rfl) (by kernel_rfl) (three_at (hk.cell (HV.cell (i := 5) (j := 0) rfl rfl)) (hk.cell (HV.cell (i := 5) (j := 1) rfl rfl)) (hk.cell (HV.cell (i := 5) (j := 2) rfl rfl))))) HK ?_
                refine t_q (n := 5) 48 (.int .i64 c) rfl (by kernel_rfl) (by kernel_rfl) (fun _ _ _ h => h) (fun w' hk => (by kernel_rfl)) HK ?_
                refine t_c (n := 4) 46 (f := 34) (args := #[.pointer (some ⟨g42, 0, none⟩), .int .i64 c]) rfl (by kernel_rfl) (by kernel_rfl) (R_call #[.pointer (some ⟨g42, 0, none⟩), .int .i64 c] Tryd.func34 (by kernel_rfl) (by kernel_rfl) (by kernel_rfl)) ?_
                have hcl := colL_le (Ls := Ls61) (c := c) (n := rs57.length)
                refine (mcol g42 cr44 (some ⟨a43, 0, none⟩) cols rs57 Ls61 c _ (Mr.of HS (i := 3) (j := 4) (m := 5) rfl rfl rfl) hR62 (by omega) (by omega)).mono ?_
                rintro e W84 ⟨A82, c83, rfl, H_⟩
                refine ⟨_, rfl, HK.tr H_.kept.nil, ?_⟩
                replace HK := HK.tr H_.kept.nil
                replace HS : St W (owns []) W84 [row A82 ((colL Ls61 c (rs57.length : Int)).length) c83 (ci .i64 (colL Ls61 c (rs57.length : Int))) 3 1, row A78 ((rowL Ls61 r).length) c79 (ci .i64 (rowL Ls61 r)) 3 1, row A75 ((rowL Ls61 r).length) c76 (ci .i64 (rowL Ls61 r)) 3 1, blk g65 [.int .i64 rows, .int .i64 cols, .slice A58 cq60.length c59] 46, blk g42 [.slice (some ⟨a43, 0, none⟩) rs57.length cr44, .int .i64 cols] 87, row (some ⟨a43, 0, none⟩) rs57.length cr44 (cf cpt rs57) 32 1, many (rsE 77 74 cols rs57), row A58 cq60.length c59 (cf actD cq60) 58 2, blk g48 [.int .i64 rows, .int .i64 cols, .slice A58 cq60.length c59] 46] := HS.join (F := []) (G := [row A82 ((colL Ls61 c (rs57.length : Int)).length) c83 (ci .i64 (colL Ls61 c (rs57.length : Int))) 3 1]) H_
                clear H_
                refine t_c (n := 3) 49 (f := 35) (args := #[.agg #[.int .i64 rows, .int .i64 cols, .slice A58 cq60.length c59], .int .i64 c]) rfl (by kernel_rfl) (by kernel_rfl) (R_call #[.agg #[.int .i64 rows, .int .i64 cols, .slice A58 cq60.length c59], .int .i64 c] Tryd.func35 (by kernel_rfl) (by kernel_rfl) (by kernel_rfl)) ?_
                have hrw2 : colC cq60 c rows = (colL Ls61 c (rs57.length : Int)) := by rw [hM63.col, show rows = (rs57.length : Int) by omega]
                refine (c6col A58 c59 cq60 rows cols c _ (Rd.row HS (i := 7) rfl) (by omega) (by omega) (by omega)).mono ?_
                rintro e W87 ⟨A85, c86, rfl, H_⟩
                rw [hrw2] at H_
                rw [hrw2]
                refine ⟨_, rfl, HK.tr H_.kept.nil, ?_⟩
                replace HK := HK.tr H_.kept.nil
                replace HS : St W (owns []) W87 [row A85 ((colL Ls61 c (rs57.length : Int)).length) c86 (ci .i64 (colL Ls61 c (rs57.length : Int))) 3 1, row A82 ((colL Ls61 c (rs57.length : Int)).length) c83 (ci .i64 (colL Ls61 c (rs57.length : Int))) 3 1, row A78 ((rowL Ls61 r).length) c79 (ci .i64 (rowL Ls61 r)) 3 1, row A75 ((rowL Ls61 r).length) c76 (ci .i64 (rowL Ls61 r)) 3 1, blk g65 [.int .i64 rows, .int .i64 cols, .slice A58 cq60.length c59] 46, blk g42 [.slice (some ⟨a43, 0, none⟩) rs57.length cr44, .int .i64 cols] 87, row (some ⟨a43, 0, none⟩) rs57.length cr44 (cf cpt rs57) 32 1, many (rsE 77 74 cols rs57), row A58 cq60.length c59 (cf actD cq60) 58 2, blk g48 [.int .i64 rows, .int .i64 cols, .slice A58 cq60.length c59] 46] := HS.join (F := []) (G := [row A85 ((colL Ls61 c (rs57.length : Int)).length) c86 (ci .i64 (colL Ls61 c (rs57.length : Int))) 3 1]) H_
                clear H_
                refine t_c (n := 2) 50 (f := 31) (args := #[.slice A82 ((colL Ls61 c (rs57.length : Int)).length) c83, .slice A85 ((colL Ls61 c (rs57.length : Int)).length) c86]) rfl (by kernel_rfl) (by kernel_rfl) (R_call #[.slice A82 ((colL Ls61 c (rs57.length : Int)).length) c83, .slice A85 ((colL Ls61 c (rs57.length : Int)).length) c86] Tryd.func31 (by kernel_rfl) (by kernel_rfl) (by kernel_rfl)) ?_
                refine (r1same A82 A85 c83 c86 (colL Ls61 c (rs57.length : Int)) (colL Ls61 c (rs57.length : Int)) _ (Rd.row HS (i := 1) rfl) (by omega) (Rd.row HS (i := 0) rfl) (by omega)).mono ?_
                rintro e W88 ⟨rfl, H_⟩
                rw [decide_eq_true (rfl : (colL Ls61 c (rs57.length : Int)) = (colL Ls61 c (rs57.length : Int)))]
                refine ⟨_, rfl, HK.tr H_.kept.nil, ?_⟩
                replace HK := HK.tr H_.kept.nil
                replace HS : St W (owns []) W88 [row A85 ((colL Ls61 c (rs57.length : Int)).length) c86 (ci .i64 (colL Ls61 c (rs57.length : Int))) 3 1, row A82 ((colL Ls61 c (rs57.length : Int)).length) c83 (ci .i64 (colL Ls61 c (rs57.length : Int))) 3 1, row A78 ((rowL Ls61 r).length) c79 (ci .i64 (rowL Ls61 r)) 3 1, row A75 ((rowL Ls61 r).length) c76 (ci .i64 (rowL Ls61 r)) 3 1, blk g65 [.int .i64 rows, .int .i64 cols, .slice A58 cq60.length c59] 46, blk g42 [.slice (some ⟨a43, 0, none⟩) rs57.length cr44, .int .i64 cols] 87, row (some ⟨a43, 0, none⟩) rs57.length cr44 (cf cpt rs57) 32 1, many (rsE 77 74 cols rs57), row A58 cq60.length c59 (cf actD cq60) 58 2, blk g48 [.int .i64 rows, .int .i64 cols, .slice A58 cq60.length c59] 46] := HS.join (F := []) (G := []) H_
                clear H_
                refine t_q (n := 1) 51 (.bool false) rfl (by kernel_rfl) (by kernel_rfl) (fun _ _ _ h => h) (fun w' hk => (by kernel_rfl)) HK ?_
                refine t_q (n := 0) 52 (.bool false) rfl (by kernel_rfl) (by kernel_rfl) (fun _ _ _ h => h) (fun w' hk => (by kernel_rfl)) HK ?_
                refine t_done (by kernel_rfl) ?_
                clear HV HK
                refine x_then ?_
                refine wp_cond_false (by kernel_rfl) ?_
                refine wp_skip ?_
                refine x_inb ?_
                refine x_then ?_
                refine wp_region_lit ?_
                refine ql (.int .i64 k) (by kernel_rfl) (by kernel_rfl) ?_
                refine ql (.int .i64 (k + 1)) (by kernel_rfl) (R_int (by kernel_rfl) (w64 (by omega))) ?_
                refine ql (.int .i64 (k + 1)) (by kernel_rfl) (by kernel_rfl) ?_
                refine wpList_nil ?_
                replace HS : St W (owns []) W88 [blk g42 [.slice (some ⟨a43, 0, none⟩) rs57.length cr44, .int .i64 cols] 87, row (some ⟨a43, 0, none⟩) rs57.length cr44 (cf cpt rs57) 32 1, many (rsE 77 74 cols rs57), blk g48 [.int .i64 rows, .int .i64 cols, .slice A58 cq60.length c59] 46, row A58 cq60.length c59 (cf actD cq60) 58 2] := St.tail (F := [row A85 ((colL Ls61 c (rs57.length : Int)).length) c86 (ci .i64 (colL Ls61 c (rs57.length : Int))) 3 1, row A82 ((colL Ls61 c (rs57.length : Int)).length) c83 (ci .i64 (colL Ls61 c (rs57.length : Int))) 3 1, row A78 ((rowL Ls61 r).length) c79 (ci .i64 (rowL Ls61 r)) 3 1, row A75 ((rowL Ls61 r).length) c76 (ci .i64 (rowL Ls61 r)) 3 1, blk g65 [.int .i64 rows, .int .i64 cols, .slice A58 cq60.length c59] 46]) (HS.perm (perm_ [0, 1, 2, 3, 4, 5, 6, 7, 9, 8] (by kernel_rfl) rfl))
                refine x_then ?_
                exact ⟨l.length - (k + 1).toNat, by omega, (fun k_ : Nat => List.getD ((.int .i64 rows) :: (.int .i64 cols) :: (.slice (some ad56) l.length cl) :: (.int .i64 r) :: (.int .i64 c) :: undef :: undef :: undef :: undef :: undef :: ((J51 10)) :: (.pointer (some ⟨g42, 0, none⟩)) :: (.int .i64 0) :: (.pointer (some ⟨g48, 0, none⟩)) :: (.int .i64 (k + 1)) :: (.pointer (some ⟨g65, 0, none⟩)) :: (.bool true) :: (.slice (some ad56) l.length cl) :: (.int .i64 (l.length : Int)) :: (.bool false) :: (.bool false) :: (.int .i64 rows) :: (.bool false) :: (.bool false) :: undef :: undef :: (.bool false) :: (.bool false) :: (.bool false) :: (.int .i64 cols) :: (.bool false) :: (.bool false) :: undef :: undef :: (.bool false) :: (.bool false) :: undef :: (.tuple #[.pointer (some ⟨g42, 0, none⟩), .int .i64 0]) :: (.int .i64 rows) :: (.int .i64 cols) :: (.tuple #[.pointer (some ⟨g42, 0, none⟩), .int .i64 0]) :: (.pointer (some ⟨g42, 0, none⟩)) :: (.int .i64 0) :: (.int .i64 rows) :: (.bool false) :: (.bool false) :: (.int .i64 cols) :: (.bool false) :: (.bool false) :: undef :: undef :: undef :: undef :: undef :: undef :: undef :: undef :: undef :: (.int .i64 rows) :: (.bool false) :: (.bool false) :: (.int .i64 cols) :: (.bool false) :: (.bool false) :: undef :: undef :: undef :: undef :: undef :: undef :: undef :: undef :: undef :: (.pointer (some ⟨g42, 0, none⟩)) :: (.bool false) :: (.bool false) :: (.int .i64 0) :: (.bool false) :: (.bool false) :: (.int .i64 rows) :: (.int .i64 cols) :: (.agg #[.int .i64 rows, .int .i64 cols, .slice none 0 0]) :: (.int .i64 k) :: (.slice (some ad56) l.length cl) :: (.int .i64 (l.length : Int)) :: (.bool true) :: (.int .i64 k) :: (.int .i64 (k + 1)) :: (.tuple #[.agg #[.int .i64 rows, .int .i64 cols, .slice A58 cq60.length c59], .bool true]) :: (.pointer (some ⟨g42, 0, none⟩)) :: (.agg #[.int .i64 rows, .int .i64 cols, .slice Aq cq_.length cp]) :: (.slice (some ad56) l.length cl) :: (.int .i64 k) :: (.pointer (some (ad56.add (k.toNat * 3)))) :: (.agg #[.int .i64 ((gx l k).1), .int .i64 ((gx l k).2.1), .int .i64 ((gx l k).2.2)]) :: (.tuple #[.agg #[.int .i64 rows, .int .i64 cols, .slice A58 cq60.length c59], .bool true]) :: (.agg #[.int .i64 rows, .int .i64 cols, .slice A58 cq60.length c59]) :: (.bool true) :: (.agg #[.int .i64 rows, .int .i64 cols, .slice A58 cq60.length c59]) :: (.bool true) :: (.bool false) :: (.bool false) :: (.pointer (some ⟨g42, 0, none⟩)) :: (.int .i64 (rs57.length : Int)) :: (.int .i64 rows) :: (.bool false) :: (.bool false) :: (.bool false) :: (.pointer (some ⟨g42, 0, none⟩)) :: (.int .i64 cols) :: (.int .i64 cols) :: (.bool false) :: (.bool false) :: (.bool false) :: (.pointer (some ⟨g42, 0, none⟩)) :: (.int .i64 r) :: (.int .i64 c) :: (.bool (decide (c ∈ rowL Ls61 r))) :: (.agg #[.int .i64 rows, .int .i64 cols, .slice A58 cq60.length c59]) :: (.int .i64 r) :: (.int .i64 c) :: (.bool (decide (c ∈ rowL Ls61 r))) :: (.bool false) :: (.bool false) :: (.bool false) :: (.pointer (some ⟨g42, 0, none⟩)) :: (.int .i64 (cntL Ls61 : Int)) :: (.pointer (some ⟨g48, 2, none⟩)) :: (.slice A58 cq60.length c59) :: (.int .i64 (cq60.length : Int)) :: (.bool false) :: (.bool false) :: (.bool false) :: (.pointer (some ⟨g42, 0, none⟩)) :: (.int .i64 r) :: (.slice A75 ((rowL Ls61 r).length) c76) :: (.agg #[.int .i64 rows, .int .i64 cols, .slice A58 cq60.length c59]) :: (.int .i64 r) :: (.slice A78 ((rowL Ls61 r).length) c79) :: (.bool true) :: (.bool false) :: (.bool false) :: (.bool false) :: (.pointer (some ⟨g42, 0, none⟩)) :: (.int .i64 c) :: (.slice A82 ((colL Ls61 c (rs57.length : Int)).length) c83) :: (.agg #[.int .i64 rows, .int .i64 cols, .slice A58 cq60.length c59]) :: (.int .i64 c) :: (.slice A85 ((colL Ls61 c (rs57.length : Int)).length) c86) :: (.bool true) :: (.bool false) :: (.bool false) :: undef :: []) k_ undef), k + 1, rs57, Ls61, cq60, A58, c59, congrArg Fr (by kernel_rfl), rfl, by omega, by omega, hR62, hM63, (by omega), HS⟩
              · skip
                obtain ⟨g89, W90, hg_, hw_, H_, hk_⟩ := ex_blk HS [.int .i64 0, .int .i64 0, .slice none 0 0] 46
                have hv_g89 := Nat.le_trans HK.size (Nat.le_of_eq (Eq.symm hg_))
                refine t_e2 (n := 6) 10 (.pointer (some ⟨g89, 0, none⟩)) rfl (by kernel_rfl) (by subst hg_; subst hw_; kernel_rfl) (HK.tr hk_) ?_
                replace HK := HK.tr hk_
                clear hk_
                clear hg_ hw_
                replace HS : St W (owns []) W90 [blk g89 [.int .i64 0, .int .i64 0, .slice none 0 0] 46, blk g42 [.slice (some ⟨a43, 0, none⟩) rs_.length cr44, .int .i64 cols] 87, row (some ⟨a43, 0, none⟩) rs_.length cr44 (cf cpt rs_) 32 1, many (rsE 77 74 cols rs_), blk g48 [.int .i64 rows, .int .i64 cols, .slice Aq cq_.length cp] 46, row Aq cq_.length cp (cf actD cq_) 58 2] := H_
                clear H_
                refine t_c (n := 5) 6 (f := 25) (args := #[.pointer (some ⟨g42, 0, none⟩), .agg #[.int .i64 rows, .int .i64 cols, .slice Aq cq_.length cp], .agg #[.int .i64 ((gx l k).1), .int .i64 ((gx l k).2.1), .int .i64 ((gx l k).2.2)]]) rfl (by kernel_rfl) (by kernel_rfl) (R_call #[.pointer (some ⟨g42, 0, none⟩), .agg #[.int .i64 rows, .int .i64 cols, .slice Aq cq_.length cp], .agg #[.int .i64 ((gx l k).1), .int .i64 ((gx l k).2.1), .int .i64 ((gx l k).2.2)]] Tryd.func25 (by kernel_rfl) (by kernel_rfl) (by kernel_rfl)) ?_
                replace HS : St W (owns []) W90 [blk g42 [.slice (some ⟨a43, 0, none⟩) rs_.length cr44, .int .i64 cols] 87, row (some ⟨a43, 0, none⟩) rs_.length cr44 (cf cpt rs_) 32 1, many (rsE 77 74 cols rs_), row Aq cq_.length cp (cf actD cq_) 58 2, blk g89 [.int .i64 0, .int .i64 0, .slice none 0 0] 46, blk g48 [.int .i64 rows, .int .i64 cols, .slice Aq cq_.length cp] 46] := HS.perm (perm_ [1, 2, 3, 5, 0, 4] (by kernel_rfl) rfl)
                refine (c6does g42 cr44 (some ⟨a43, 0, none⟩) cols rs_ Ls_ Aq cp cq_ rows (gx l k).1 (gx l k).2.1 (gx l k).2.2 _ _ (St.focus (F := [blk g42 [.slice (some ⟨a43, 0, none⟩) rs_.length cr44, .int .i64 cols] 87, row (some ⟨a43, 0, none⟩) rs_.length cr44 (cf cpt rs_) 32 1, many (rsE 77 74 cols rs_), row Aq cq_.length cp (cf actD cq_) 58 2]) HS) hRk hMk hlk (by omega) (by omega) (by omega)).mono ?_
                rintro e W98 ⟨rs91, A92, c93, cq94, Ls95, rfl, H_, hR96, hM97, hlrs91⟩
                have hkf_ : ∀ k_, owns [blk g42 [.slice (some ⟨a43, 0, none⟩) rs_.length cr44, .int .i64 cols] 87, row (some ⟨a43, 0, none⟩) rs_.length cr44 (cf cpt rs_) 32 1, many (rsE 77 74 cols rs_), row Aq cq_.length cp (cf actD cq_) 58 2] k_ → (blk g42 [.slice (some ⟨a43, 0, none⟩) rs_.length cr44, .int .i64 cols] 87).own k_ ∨ (row (some ⟨a43, 0, none⟩) rs_.length cr44 (cf cpt rs_) 32 1).own k_ ∨ (many (rsE 77 74 cols rs_)).own k_ ∨ (row Aq cq_.length cp (cf actD cq_) 58 2).own k_ := by
                  intro k_ h_; obtain ⟨e_, he_, ho_⟩ := h_; simp only [List.mem_cons, List.not_mem_nil, or_false] at he_; rcases he_ with rfl | rfl | rfl | rfl <;> first | exact (.inl ho_) | exact (.inr (.inl ho_)) | exact (.inr (.inr (.inl ho_))) | exact (.inr (.inr (.inr ho_)))
                refine ⟨_, rfl, HK.trans H_.kept (fun _ h_ => .inl (hkf_ _ h_)), ?_⟩
                replace HK := HK.trans H_.kept (fun _ h_ => .inl (hkf_ _ h_))
                replace HS : St W (owns []) W98 [blk g42 [.slice (some ⟨a43, 0, none⟩) rs91.length cr44, .int .i64 cols] 87, row (some ⟨a43, 0, none⟩) rs91.length cr44 (cf cpt rs91) 32 1, many (rsE 77 74 cols rs91), row A92 cq94.length c93 (cf actD cq94) 58 2, blk g89 [.int .i64 0, .int .i64 0, .slice none 0 0] 46, blk g48 [.int .i64 rows, .int .i64 cols, .slice Aq cq_.length cp] 46] := HS.join (F := [blk g42 [.slice (some ⟨a43, 0, none⟩) rs_.length cr44, .int .i64 cols] 87, row (some ⟨a43, 0, none⟩) rs_.length cr44 (cf cpt rs_) 32 1, many (rsE 77 74 cols rs_), row Aq cq_.length cp (cf actD cq_) 58 2]) (G := [blk g42 [.slice (some ⟨a43, 0, none⟩) rs91.length cr44, .int .i64 cols] 87, row (some ⟨a43, 0, none⟩) rs91.length cr44 (cf cpt rs91) 32 1, many (rsE 77 74 cols rs91), row A92 cq94.length c93 (cf actD cq94) 58 2]) H_
                clear H_
                have hsb := hR96.srt_
                have hnb := hM97.cnt
                have hcb := cnt_srt hsb (by omega)
                have hmb : cols.toNat * Ls95.length ≤ 40000 := Nat.mul_le_mul (by omega : cols.toNat ≤ 200) (by have := hR96.len; omega : Ls95.length ≤ 200)
                have hLb := hR96.len
                refine t_q (n := 4) 7 (.tuple #[.agg #[.int .i64 rows, .int .i64 cols, .slice A92 cq94.length c93], .bool true]) rfl (by kernel_rfl) (by kernel_rfl) (fun _ _ _ h => h) (fun w' hk => (by kernel_rfl)) HK ?_
                refine t_q (n := 3) 8 (.agg #[.int .i64 rows, .int .i64 cols, .slice A92 cq94.length c93]) rfl (by kernel_rfl) (by kernel_rfl) (fun _ _ _ h => h) (fun w' hk => (by kernel_rfl)) HK ?_
                refine t_q (n := 2) 9 (.bool true) rfl (by kernel_rfl) (by kernel_rfl) (fun _ _ _ h => h) (fun w' hk => (by kernel_rfl)) HK ?_
                obtain ⟨W99, hrun_, H_, hk_⟩ := ex_ks (P := Tryd.prog) (ty := 0) (ps := "law.go:51") (af := #[{ on := 10, ground := Go.Ground.data }, { on := 8, ground := Go.Ground.data }, { on := 6, ground := Go.Ground.chain }, { on := 0, ground := Go.Ground.phase }, { on := 1, ground := Go.Ground.phase }, { on := 2, ground := Go.Ground.phase }, { on := 3, ground := Go.Ground.phase }, { on := 4, ground := Go.Ground.phase }, { on := 5, ground := Go.Ground.phase }, { on := 6, ground := Go.Ground.phase }, { on := 7, ground := Go.Ground.phase }, { on := 8, ground := Go.Ground.phase }, { on := 9, ground := (Go.Ground.textOnly Go.Departure.lateStores) }, { on := 10, ground := Go.Ground.phase }]) (gd := none) (t := 46) (x := (Go.Operand.tmp 15)) (y := (Go.Operand.tmp 96)) (v := .agg #[.int .i64 rows, .int .i64 cols, .slice A92 cq94.length c93]) HS 4 rfl (0) [.int .i64 rows, .int .i64 cols, .slice A92 cq94.length c93] (by kernel_rfl) (by kernel_rfl) (by kernel_rfl) (by kernel_rfl) (one_ (by kernel_rfl)) (Nat.le_of_ble_eq_true rfl)
                replace HK := HK.trans hk_ (fun _ h_ => .inr (Nat.le_trans hv_g89 (Nat.le_of_eq (Eq.symm h_))))
                refine t_s (n := 1) 11 rfl (by kernel_rfl) (by kernel_rfl) hrun_ HK ?_
                clear hk_ hrun_
                replace HS : St W (owns []) W99 [blk g42 [.slice (some ⟨a43, 0, none⟩) rs91.length cr44, .int .i64 cols] 87, row (some ⟨a43, 0, none⟩) rs91.length cr44 (cf cpt rs91) 32 1, many (rsE 77 74 cols rs91), row A92 cq94.length c93 (cf actD cq94) 58 2, blk g89 [.int .i64 rows, .int .i64 cols, .slice A92 cq94.length c93] 46, blk g48 [.int .i64 rows, .int .i64 cols, .slice Aq cq_.length cp] 46] := H_
                clear H_
                refine t_q (n := 0) 12 (.bool true) rfl (by kernel_rfl) (by kernel_rfl) (fun _ _ _ h => h) (fun w' hk => (by kernel_rfl)) HK ?_
                refine t_done (by kernel_rfl) ?_
                clear HV HK
                refine x_then ?_
                refine wp_seq ?_
                refine wp_region_lit ?_
                refine ql (.agg #[.int .i64 rows, .int .i64 cols, .slice A92 cq94.length c93]) (by kernel_rfl) (R_loadN (p := ⟨g89, 0, none⟩) [.int .i64 rows, .int .i64 cols, .slice A92 cq94.length c93] (by kernel_rfl) (by kernel_rfl) (by kernel_rfl) (by kernel_rfl) (three_at (HS.cell (i := 4) (j := 0) rfl rfl) (HS.cell (i := 4) (j := 1) rfl rfl) (HS.cell (i := 4) (j := 2) rfl rfl))) ?_
                refine ks (v := .agg #[.int .i64 rows, .int .i64 cols, .slice A92 cq94.length c93]) HS 5 rfl (0) [.int .i64 rows, .int .i64 cols, .slice A92 cq94.length c93] (by kernel_rfl) (by kernel_rfl) (by kernel_rfl) (by kernel_rfl) (by kernel_rfl) (one_ (by kernel_rfl)) (Nat.le_of_ble_eq_true rfl) rfl ?_
                intro W100 H_
                replace HS : St W (owns []) W100 [blk g42 [.slice (some ⟨a43, 0, none⟩) rs91.length cr44, .int .i64 cols] 87, row (some ⟨a43, 0, none⟩) rs91.length cr44 (cf cpt rs91) 32 1, many (rsE 77 74 cols rs91), row A92 cq94.length c93 (cf actD cq94) 58 2, blk g89 [.int .i64 rows, .int .i64 cols, .slice A92 cq94.length c93] 46, blk g48 [.int .i64 rows, .int .i64 cols, .slice A92 cq94.length c93] 46] := H_
                clear H_
                refine wpList_nil ?_
                refine x_then ?_
                refine wp_seq ?_
                refine t_start HS (fun _ => False) 53 (by kernel_rfl) rfl ?_
                intro W101 H_ HD_
                clear HD_
                replace HS : St W (owns []) W101 [blk g42 [.slice (some ⟨a43, 0, none⟩) rs91.length cr44, .int .i64 cols] 87, row (some ⟨a43, 0, none⟩) rs91.length cr44 (cf cpt rs91) 32 1, many (rsE 77 74 cols rs91), row A92 cq94.length c93 (cf actD cq94) 58 2, blk g89 [.int .i64 rows, .int .i64 cols, .slice A92 cq94.length c93] 46, blk g48 [.int .i64 rows, .int .i64 cols, .slice A92 cq94.length c93] 46] := H_
                clear H_
                have HV := HS
                have HK := Kpt.refl (fun _ => False) W101
                refine t_q (n := 52) 0 (.bool true) rfl (by kernel_rfl) (by kernel_rfl) (fun _ _ _ h => h) (fun w' hk => (by kernel_rfl)) HK ?_
                refine t_q (n := 51) 1 (.bool false) rfl (by kernel_rfl) (by kernel_rfl) (fun _ _ _ h => h) (fun w' hk => (by kernel_rfl)) HK ?_
                refine t_q (n := 50) 2 (.bool false) rfl (by kernel_rfl) (by kernel_rfl) (fun _ _ _ h => h) (fun w' hk => (by kernel_rfl)) HK ?_
                refine t_q (n := 49) 3 (.pointer (some ⟨g42, 0, none⟩)) rfl (by kernel_rfl) (by kernel_rfl) (fun _ _ _ h => h) (fun w' hk => (by kernel_rfl)) HK ?_
                refine t_q (n := 48) 5 (.int .i64 rows) rfl (by kernel_rfl) (by kernel_rfl) (fun _ _ _ h => h) (fun w' hk => (by kernel_rfl)) HK ?_
                refine t_c (n := 47) 4 (f := 26) (args := #[.pointer (some ⟨g42, 0, none⟩)]) rfl (by kernel_rfl) (by kernel_rfl) (R_call #[.pointer (some ⟨g42, 0, none⟩)] Tryd.func26 (by kernel_rfl) (by kernel_rfl) (by kernel_rfl)) ?_
                refine (mrows g42 cr44 (some ⟨a43, 0, none⟩) cols rs91 Ls95 _ (Mr.of HS (i := 0) (j := 1) (m := 2) rfl rfl rfl) hR96 (by omega) (by omega)).mono ?_
                rintro e W102 ⟨rfl, H_⟩
                refine ⟨_, rfl, HK.tr H_.kept.nil, ?_⟩
                replace HK := HK.tr H_.kept.nil
                replace HS : St W (owns []) W102 [blk g42 [.slice (some ⟨a43, 0, none⟩) rs91.length cr44, .int .i64 cols] 87, row (some ⟨a43, 0, none⟩) rs91.length cr44 (cf cpt rs91) 32 1, many (rsE 77 74 cols rs91), row A92 cq94.length c93 (cf actD cq94) 58 2, blk g89 [.int .i64 rows, .int .i64 cols, .slice A92 cq94.length c93] 46, blk g48 [.int .i64 rows, .int .i64 cols, .slice A92 cq94.length c93] 46] := HS.join (F := []) (G := []) H_
                clear H_
                refine t_q (n := 46) 6 (.bool false) rfl (by kernel_rfl) (by kernel_rfl) (fun _ _ _ h => h) (fun w' hk => (R_beq (b := ((rs91.length : Int) != rows)) (by kernel_rfl) (bne_f (by omega)))) HK ?_
                refine t_q (n := 45) 7 (.bool false) rfl (by kernel_rfl) (by kernel_rfl) (fun _ _ _ h => h) (fun w' hk => (by kernel_rfl)) HK ?_
                refine t_q (n := 44) 8 (.bool false) rfl (by kernel_rfl) (by kernel_rfl) (fun _ _ _ h => h) (fun w' hk => (by kernel_rfl)) HK ?_
                refine t_q (n := 43) 9 (.pointer (some ⟨g42, 0, none⟩)) rfl (by kernel_rfl) (by kernel_rfl) (fun _ _ _ h => h) (fun w' hk => (by kernel_rfl)) HK ?_
                refine t_q (n := 42) 11 (.int .i64 cols) rfl (by kernel_rfl) (by kernel_rfl) (fun _ _ _ h => h) (fun w' hk => (by kernel_rfl)) HK ?_
                refine t_c (n := 41) 10 (f := 27) (args := #[.pointer (some ⟨g42, 0, none⟩)]) rfl (by kernel_rfl) (by kernel_rfl) (R_call #[.pointer (some ⟨g42, 0, none⟩)] Tryd.func27 (by kernel_rfl) (by kernel_rfl) (by kernel_rfl)) ?_
                refine (mcols g42 cr44 (some ⟨a43, 0, none⟩) cols rs91 Ls95 _ (Mr.of HS (i := 0) (j := 1) (m := 2) rfl rfl rfl) hR96 (by omega) (by omega)).mono ?_
                rintro e W103 ⟨rfl, H_⟩
                refine ⟨_, rfl, HK.tr H_.kept.nil, ?_⟩
                replace HK := HK.tr H_.kept.nil
                replace HS : St W (owns []) W103 [blk g42 [.slice (some ⟨a43, 0, none⟩) rs91.length cr44, .int .i64 cols] 87, row (some ⟨a43, 0, none⟩) rs91.length cr44 (cf cpt rs91) 32 1, many (rsE 77 74 cols rs91), row A92 cq94.length c93 (cf actD cq94) 58 2, blk g89 [.int .i64 rows, .int .i64 cols, .slice A92 cq94.length c93] 46, blk g48 [.int .i64 rows, .int .i64 cols, .slice A92 cq94.length c93] 46] := HS.join (F := []) (G := []) H_
                clear H_
                refine t_q (n := 40) 12 (.bool false) rfl (by kernel_rfl) (by kernel_rfl) (fun _ _ _ h => h) (fun w' hk => (R_beq (b := (cols != cols)) (by kernel_rfl) (bne_f (by omega)))) HK ?_
                refine t_q (n := 39) 13 (.bool false) rfl (by kernel_rfl) (by kernel_rfl) (fun _ _ _ h => h) (fun w' hk => (by kernel_rfl)) HK ?_
                refine t_q (n := 38) 14 (.bool false) rfl (by kernel_rfl) (by kernel_rfl) (fun _ _ _ h => h) (fun w' hk => (by kernel_rfl)) HK ?_
                refine t_q (n := 37) 15 (.pointer (some ⟨g42, 0, none⟩)) rfl (by kernel_rfl) (by kernel_rfl) (fun _ _ _ h => h) (fun w' hk => (by kernel_rfl)) HK ?_
                refine t_q (n := 36) 16 (.int .i64 r) rfl (by kernel_rfl) (by kernel_rfl) (fun _ _ _ h => h) (fun w' hk => (by kernel_rfl)) HK ?_
                refine t_q (n := 35) 17 (.int .i64 c) rfl (by kernel_rfl) (by kernel_rfl) (fun _ _ _ h => h) (fun w' hk => (by kernel_rfl)) HK ?_
                refine t_q (n := 34) 19 (.agg #[.int .i64 rows, .int .i64 cols, .slice A92 cq94.length c93]) rfl (by kernel_rfl) (by kernel_rfl) (fun _ _ _ h => h) (fun w' hk => (R_loadN (p := ⟨g48, 0, none⟩) [.int .i64 rows, .int .i64 cols, .slice A92 cq94.length c93] (by kernel_rfl) (by kernel_rfl) (by kernel_rfl) (by kernel_rfl) (three_at (hk.cell (HV.cell (i := 5) (j := 0) rfl rfl)) (hk.cell (HV.cell (i := 5) (j := 1) rfl rfl)) (hk.cell (HV.cell (i := 5) (j := 2) rfl rfl))))) HK ?_
                refine t_q (n := 33) 20 (.int .i64 r) rfl (by kernel_rfl) (by kernel_rfl) (fun _ _ _ h => h) (fun w' hk => (by kernel_rfl)) HK ?_
                refine t_q (n := 32) 21 (.int .i64 c) rfl (by kernel_rfl) (by kernel_rfl) (fun _ _ _ h => h) (fun w' hk => (by kernel_rfl)) HK ?_
                refine t_c (n := 31) 18 (f := 28) (args := #[.pointer (some ⟨g42, 0, none⟩), .int .i64 r, .int .i64 c]) rfl (by kernel_rfl) (by kernel_rfl) (R_call #[.pointer (some ⟨g42, 0, none⟩), .int .i64 r, .int .i64 c] Tryd.func28 (by kernel_rfl) (by kernel_rfl) (by kernel_rfl)) ?_
                refine (mhas g42 cr44 (some ⟨a43, 0, none⟩) cols rs91 Ls95 r c _ (Mr.of HS (i := 0) (j := 1) (m := 2) rfl rfl rfl) hR96 (by omega) (by omega)).mono ?_
                rintro e W104 ⟨rfl, H_⟩
                refine ⟨_, rfl, HK.tr H_.kept.nil, ?_⟩
                replace HK := HK.tr H_.kept.nil
                replace HS : St W (owns []) W104 [blk g42 [.slice (some ⟨a43, 0, none⟩) rs91.length cr44, .int .i64 cols] 87, row (some ⟨a43, 0, none⟩) rs91.length cr44 (cf cpt rs91) 32 1, many (rsE 77 74 cols rs91), row A92 cq94.length c93 (cf actD cq94) 58 2, blk g89 [.int .i64 rows, .int .i64 cols, .slice A92 cq94.length c93] 46, blk g48 [.int .i64 rows, .int .i64 cols, .slice A92 cq94.length c93] 46] := HS.join (F := []) (G := []) H_
                clear H_
                refine t_c (n := 30) 22 (f := 29) (args := #[.agg #[.int .i64 rows, .int .i64 cols, .slice A92 cq94.length c93], .int .i64 r, .int .i64 c]) rfl (by kernel_rfl) (by kernel_rfl) (R_call #[.agg #[.int .i64 rows, .int .i64 cols, .slice A92 cq94.length c93], .int .i64 r, .int .i64 c] Tryd.func29 (by kernel_rfl) (by kernel_rfl) (by kernel_rfl)) ?_
                refine (c6has A92 c93 cq94 rows cols r c _ (Rd.row HS (i := 3) rfl) (by omega)).mono ?_
                rintro e W105 ⟨rfl, H_⟩
                rw [show decide ((r, c) ∈ cq94) = decide (c ∈ rowL Ls95 r) from decide_eq_decide.2 (hM97.mem r c)]
                refine ⟨_, rfl, HK.tr H_.kept.nil, ?_⟩
                replace HK := HK.tr H_.kept.nil
                replace HS : St W (owns []) W105 [blk g42 [.slice (some ⟨a43, 0, none⟩) rs91.length cr44, .int .i64 cols] 87, row (some ⟨a43, 0, none⟩) rs91.length cr44 (cf cpt rs91) 32 1, many (rsE 77 74 cols rs91), row A92 cq94.length c93 (cf actD cq94) 58 2, blk g89 [.int .i64 rows, .int .i64 cols, .slice A92 cq94.length c93] 46, blk g48 [.int .i64 rows, .int .i64 cols, .slice A92 cq94.length c93] 46] := HS.join (F := []) (G := []) H_
                clear H_
                refine t_q (n := 29) 23 (.bool false) rfl (by kernel_rfl) (by kernel_rfl) (fun _ _ _ h => h) (fun w' hk => (R_beq (b := ((decide (c ∈ rowL Ls95 r)) != (decide (c ∈ rowL Ls95 r)))) (by kernel_rfl) (bne_same _))) HK ?_
                refine t_q (n := 28) 24 (.bool false) rfl (by kernel_rfl) (by kernel_rfl) (fun _ _ _ h => h) (fun w' hk => (by kernel_rfl)) HK ?_
                refine t_q (n := 27) 25 (.bool false) rfl (by kernel_rfl) (by kernel_rfl) (fun _ _ _ h => h) (fun w' hk => (by kernel_rfl)) HK ?_
                refine t_q (n := 26) 26 (.pointer (some ⟨g42, 0, none⟩)) rfl (by kernel_rfl) (by kernel_rfl) (fun _ _ _ h => h) (fun w' hk => (by kernel_rfl)) HK ?_
                refine t_q (n := 25) 28 (.pointer (some ⟨g48, 2, none⟩)) rfl (by kernel_rfl) (by kernel_rfl) (fun _ _ _ h => h) (fun w' hk => (by kernel_rfl)) HK ?_
                refine t_q (n := 24) 29 (.slice A92 cq94.length c93) rfl (by kernel_rfl) (by kernel_rfl) (fun _ _ _ h => h) (fun w' hk => (R_load (p := ⟨g48, 2, none⟩) (by kernel_rfl) (by kernel_rfl) (by kernel_rfl) (hk.cell (HV.cell (i := 5) (j := 2) rfl rfl)))) HK ?_
                refine t_q (n := 23) 30 (.int .i64 (cq94.length : Int)) rfl (by kernel_rfl) (by kernel_rfl) (fun _ _ _ h => h) (fun w' hk => (by kernel_rfl)) HK ?_
                refine t_c (n := 22) 27 (f := 30) (args := #[.pointer (some ⟨g42, 0, none⟩)]) rfl (by kernel_rfl) (by kernel_rfl) (R_call #[.pointer (some ⟨g42, 0, none⟩)] Tryd.func30 (by kernel_rfl) (by kernel_rfl) (by kernel_rfl)) ?_
                refine (mcount g42 cr44 (some ⟨a43, 0, none⟩) cols rs91 Ls95 _ (Mr.of HS (i := 0) (j := 1) (m := 2) rfl rfl rfl) hR96 (by omega) (by omega)).mono ?_
                rintro e W106 ⟨rfl, H_⟩
                refine ⟨_, rfl, HK.tr H_.kept.nil, ?_⟩
                replace HK := HK.tr H_.kept.nil
                replace HS : St W (owns []) W106 [blk g42 [.slice (some ⟨a43, 0, none⟩) rs91.length cr44, .int .i64 cols] 87, row (some ⟨a43, 0, none⟩) rs91.length cr44 (cf cpt rs91) 32 1, many (rsE 77 74 cols rs91), row A92 cq94.length c93 (cf actD cq94) 58 2, blk g89 [.int .i64 rows, .int .i64 cols, .slice A92 cq94.length c93] 46, blk g48 [.int .i64 rows, .int .i64 cols, .slice A92 cq94.length c93] 46] := HS.join (F := []) (G := []) H_
                clear H_
                refine t_q (n := 21) 31 (.bool false) rfl (by kernel_rfl) (by kernel_rfl) (fun _ _ _ h => h) (fun w' hk => (R_beq (b := ((cntL Ls95 : Int) != (cq94.length : Int))) (by kernel_rfl) (bne_f (by omega)))) HK ?_
                refine t_q (n := 20) 32 (.bool false) rfl (by kernel_rfl) (by kernel_rfl) (fun _ _ _ h => h) (fun w' hk => (by kernel_rfl)) HK ?_
                refine t_q (n := 19) 33 (.bool false) rfl (by kernel_rfl) (by kernel_rfl) (fun _ _ _ h => h) (fun w' hk => (by kernel_rfl)) HK ?_
                refine t_q (n := 18) 34 (.pointer (some ⟨g42, 0, none⟩)) rfl (by kernel_rfl) (by kernel_rfl) (fun _ _ _ h => h) (fun w' hk => (by kernel_rfl)) HK ?_
                refine t_q (n := 17) 35 (.int .i64 r) rfl (by kernel_rfl) (by kernel_rfl) (fun _ _ _ h => h) (fun w' hk => (by kernel_rfl)) HK ?_
                refine t_q (n := 16) 37 (.agg #[.int .i64 rows, .int .i64 cols, .slice A92 cq94.length c93]) rfl (by kernel_rfl) (by kernel_rfl) (fun _ _ _ h => h) (fun w' hk => (R_loadN (p := ⟨g48, 0, none⟩) [.int .i64 rows, .int .i64 cols, .slice A92 cq94.length c93] (by kernel_rfl) (by kernel_rfl) (by kernel_rfl) (by kernel_rfl) (three_at (hk.cell (HV.cell (i := 5) (j := 0) rfl rfl)) (hk.cell (HV.cell (i := 5) (j := 1) rfl rfl)) (hk.cell (HV.cell (i := 5) (j := 2) rfl rfl))))) HK ?_
                refine t_q (n := 15) 38 (.int .i64 r) rfl (by kernel_rfl) (by kernel_rfl) (fun _ _ _ h => h) (fun w' hk => (by kernel_rfl)) HK ?_
                refine t_c (n := 14) 36 (f := 32) (args := #[.pointer (some ⟨g42, 0, none⟩), .int .i64 r]) rfl (by kernel_rfl) (by kernel_rfl) (R_call #[.pointer (some ⟨g42, 0, none⟩), .int .i64 r] Tryd.func32 (by kernel_rfl) (by kernel_rfl) (by kernel_rfl)) ?_
                have hrl := hR96.rlen (r := r) (by omega)
                refine (mlist g42 cr44 (some ⟨a43, 0, none⟩) cols rs91 Ls95 r _ (Mr.of HS (i := 0) (j := 1) (m := 2) rfl rfl rfl) hR96 (by omega) (by omega) (hT.old0 HS)).mono ?_
                rintro e W109 ⟨A107, c108, rfl, H_⟩
                refine ⟨_, rfl, HK.tr H_.kept.nil, ?_⟩
                replace HK := HK.tr H_.kept.nil
                replace HS : St W (owns []) W109 [row A107 ((rowL Ls95 r).length) c108 (ci .i64 (rowL Ls95 r)) 3 1, blk g42 [.slice (some ⟨a43, 0, none⟩) rs91.length cr44, .int .i64 cols] 87, row (some ⟨a43, 0, none⟩) rs91.length cr44 (cf cpt rs91) 32 1, many (rsE 77 74 cols rs91), row A92 cq94.length c93 (cf actD cq94) 58 2, blk g89 [.int .i64 rows, .int .i64 cols, .slice A92 cq94.length c93] 46, blk g48 [.int .i64 rows, .int .i64 cols, .slice A92 cq94.length c93] 46] := HS.join (F := []) (G := [row A107 ((rowL Ls95 r).length) c108 (ci .i64 (rowL Ls95 r)) 3 1]) H_
                clear H_
                refine t_c (n := 13) 39 (f := 33) (args := #[.agg #[.int .i64 rows, .int .i64 cols, .slice A92 cq94.length c93], .int .i64 r]) rfl (by kernel_rfl) (by kernel_rfl) (R_call #[.agg #[.int .i64 rows, .int .i64 cols, .slice A92 cq94.length c93], .int .i64 r] Tryd.func33 (by kernel_rfl) (by kernel_rfl) (by kernel_rfl)) ?_
                have hrw : rowC cq94 r cols = (rowL Ls95 r) := hM97.row hsb
                refine (c6row A92 c93 cq94 rows cols r _ (Rd.row HS (i := 4) rfl) (by omega) (by omega) (by omega)).mono ?_
                rintro e W112 ⟨A110, c111, rfl, H_⟩
                rw [hrw] at H_
                rw [hrw]
                refine ⟨_, rfl, HK.tr H_.kept.nil, ?_⟩
                replace HK := HK.tr H_.kept.nil
                replace HS : St W (owns []) W112 [row A110 ((rowL Ls95 r).length) c111 (ci .i64 (rowL Ls95 r)) 3 1, row A107 ((rowL Ls95 r).length) c108 (ci .i64 (rowL Ls95 r)) 3 1, blk g42 [.slice (some ⟨a43, 0, none⟩) rs91.length cr44, .int .i64 cols] 87, row (some ⟨a43, 0, none⟩) rs91.length cr44 (cf cpt rs91) 32 1, many (rsE 77 74 cols rs91), row A92 cq94.length c93 (cf actD cq94) 58 2, blk g89 [.int .i64 rows, .int .i64 cols, .slice A92 cq94.length c93] 46, blk g48 [.int .i64 rows, .int .i64 cols, .slice A92 cq94.length c93] 46] := HS.join (F := []) (G := [row A110 ((rowL Ls95 r).length) c111 (ci .i64 (rowL Ls95 r)) 3 1]) H_
                clear H_
                refine t_c (n := 12) 40 (f := 31) (args := #[.slice A107 ((rowL Ls95 r).length) c108, .slice A110 ((rowL Ls95 r).length) c111]) rfl (by kernel_rfl) (by kernel_rfl) (R_call #[.slice A107 ((rowL Ls95 r).length) c108, .slice A110 ((rowL Ls95 r).length) c111] Tryd.func31 (by kernel_rfl) (by kernel_rfl) (by kernel_rfl)) ?_
                refine (r1same A107 A110 c108 c111 (rowL Ls95 r) (rowL Ls95 r) _ (Rd.row HS (i := 1) rfl) (by omega) (Rd.row HS (i := 0) rfl) (by omega)).mono ?_
                rintro e W113 ⟨rfl, H_⟩
                rw [decide_eq_true (rfl : (rowL Ls95 r) = (rowL Ls95 r))]
                refine ⟨_, rfl, HK.tr H_.kept.nil, ?_⟩
                replace HK := HK.tr H_.kept.nil
                replace HS : St W (owns []) W113 [row A110 ((rowL Ls95 r).length) c111 (ci .i64 (rowL Ls95 r)) 3 1, row A107 ((rowL Ls95 r).length) c108 (ci .i64 (rowL Ls95 r)) 3 1, blk g42 [.slice (some ⟨a43, 0, none⟩) rs91.length cr44, .int .i64 cols] 87, row (some ⟨a43, 0, none⟩) rs91.length cr44 (cf cpt rs91) 32 1, many (rsE 77 74 cols rs91), row A92 cq94.length c93 (cf actD cq94) 58 2, blk g89 [.int .i64 rows, .int .i64 cols, .slice A92 cq94.length c93] 46, blk g48 [.int .i64 rows, .int .i64 cols, .slice A92 cq94.length c93] 46] := HS.join (F := []) (G := []) H_
                clear H_
                refine t_q (n := 11) 41 (.bool false) rfl (by kernel_rfl) (by kernel_rfl) (fun _ _ _ h => h) (fun w' hk => (by kernel_rfl)) HK ?_
                refine t_q (n := 10) 42 (.bool false) rfl (by kernel_rfl) (by kernel_rfl) (fun _ _ _ h => h) (fun w' hk => (by kernel_rfl)) HK ?_
                refine t_q (n := 9) 43 (.bool false) rfl (by kernel_rfl) (by kernel_rfl) (fun _ _ _ h => h) (fun w' hk => (by kernel_rfl)) HK ?_
                refine t_q (n := 8) 44 (.pointer (some ⟨g42, 0, none⟩)) rfl (by kernel_rfl) (by kernel_rfl) (fun _ _ _ h => h) (fun w' hk => (by kernel_rfl)) HK ?_
                refine t_q (n := 7) 45 (.int .i64 c) rfl (by kernel_rfl) (by kernel_rfl) (fun _ _ _ h => h) (fun w' hk => (by kernel_rfl)) HK ?_
                refine t_q (n := 6) 47 (.agg #[.int .i64 rows, .int .i64 cols, .slice A92 cq94.length c93]) rfl (by kernel_rfl) (by kernel_rfl) (fun _ _ _ h => h) (fun w' hk => (R_loadN (p := ⟨g48, 0, none⟩) [.int .i64 rows, .int .i64 cols, .slice A92 cq94.length c93] (by kernel_rfl) (by kernel_rfl) (by kernel_rfl) (by kernel_rfl) (three_at (hk.cell (HV.cell (i := 5) (j := 0) rfl rfl)) (hk.cell (HV.cell (i := 5) (j := 1) rfl rfl)) (hk.cell (HV.cell (i := 5) (j := 2) rfl rfl))))) HK ?_
                refine t_q (n := 5) 48 (.int .i64 c) rfl (by kernel_rfl) (by kernel_rfl) (fun _ _ _ h => h) (fun w' hk => (by kernel_rfl)) HK ?_
                refine t_c (n := 4) 46 (f := 34) (args := #[.pointer (some ⟨g42, 0, none⟩), .int .i64 c]) rfl (by kernel_rfl) (by kernel_rfl) (R_call #[.pointer (some ⟨g42, 0, none⟩), .int .i64 c] Tryd.func34 (by kernel_rfl) (by kernel_rfl) (by kernel_rfl)) ?_
                have hcl := colL_le (Ls := Ls95) (c := c) (n := rs91.length)
                refine (mcol g42 cr44 (some ⟨a43, 0, none⟩) cols rs91 Ls95 c _ (Mr.of HS (i := 2) (j := 3) (m := 4) rfl rfl rfl) hR96 (by omega) (by omega)).mono ?_
                rintro e W116 ⟨A114, c115, rfl, H_⟩
                refine ⟨_, rfl, HK.tr H_.kept.nil, ?_⟩
                replace HK := HK.tr H_.kept.nil
                replace HS : St W (owns []) W116 [row A114 ((colL Ls95 c (rs91.length : Int)).length) c115 (ci .i64 (colL Ls95 c (rs91.length : Int))) 3 1, row A110 ((rowL Ls95 r).length) c111 (ci .i64 (rowL Ls95 r)) 3 1, row A107 ((rowL Ls95 r).length) c108 (ci .i64 (rowL Ls95 r)) 3 1, blk g42 [.slice (some ⟨a43, 0, none⟩) rs91.length cr44, .int .i64 cols] 87, row (some ⟨a43, 0, none⟩) rs91.length cr44 (cf cpt rs91) 32 1, many (rsE 77 74 cols rs91), row A92 cq94.length c93 (cf actD cq94) 58 2, blk g89 [.int .i64 rows, .int .i64 cols, .slice A92 cq94.length c93] 46, blk g48 [.int .i64 rows, .int .i64 cols, .slice A92 cq94.length c93] 46] := HS.join (F := []) (G := [row A114 ((colL Ls95 c (rs91.length : Int)).length) c115 (ci .i64 (colL Ls95 c (rs91.length : Int))) 3 1]) H_
                clear H_
                refine t_c (n := 3) 49 (f := 35) (args := #[.agg #[.int .i64 rows, .int .i64 cols, .slice A92 cq94.length c93], .int .i64 c]) rfl (by kernel_rfl) (by kernel_rfl) (R_call #[.agg #[.int .i64 rows, .int .i64 cols, .slice A92 cq94.length c93], .int .i64 c] Tryd.func35 (by kernel_rfl) (by kernel_rfl) (by kernel_rfl)) ?_
                have hrw2 : colC cq94 c rows = (colL Ls95 c (rs91.length : Int)) := by rw [hM97.col, show rows = (rs91.length : Int) by omega]
                refine (c6col A92 c93 cq94 rows cols c _ (Rd.row HS (i := 6) rfl) (by omega) (by omega) (by omega)).mono ?_
                rintro e W119 ⟨A117, c118, rfl, H_⟩
                rw [hrw2] at H_
                rw [hrw2]
                refine ⟨_, rfl, HK.tr H_.kept.nil, ?_⟩
                replace HK := HK.tr H_.kept.nil
                replace HS : St W (owns []) W119 [row A117 ((colL Ls95 c (rs91.length : Int)).length) c118 (ci .i64 (colL Ls95 c (rs91.length : Int))) 3 1, row A114 ((colL Ls95 c (rs91.length : Int)).length) c115 (ci .i64 (colL Ls95 c (rs91.length : Int))) 3 1, row A110 ((rowL Ls95 r).length) c111 (ci .i64 (rowL Ls95 r)) 3 1, row A107 ((rowL Ls95 r).length) c108 (ci .i64 (rowL Ls95 r)) 3 1, blk g42 [.slice (some ⟨a43, 0, none⟩) rs91.length cr44, .int .i64 cols] 87, row (some ⟨a43, 0, none⟩) rs91.length cr44 (cf cpt rs91) 32 1, many (rsE 77 74 cols rs91), row A92 cq94.length c93 (cf actD cq94) 58 2, blk g89 [.int .i64 rows, .int .i64 cols, .slice A92 cq94.length c93] 46, blk g48 [.int .i64 rows, .int .i64 cols, .slice A92 cq94.length c93] 46] := HS.join (F := []) (G := [row A117 ((colL Ls95 c (rs91.length : Int)).length) c118 (ci .i64 (colL Ls95 c (rs91.length : Int))) 3 1]) H_
                clear H_
                refine t_c (n := 2) 50 (f := 31) (args := #[.slice A114 ((colL Ls95 c (rs91.length : Int)).length) c115, .slice A117 ((colL Ls95 c (rs91.length : Int)).length) c118]) rfl (by kernel_rfl) (by kernel_rfl) (R_call #[.slice A114 ((colL Ls95 c (rs91.length : Int)).length) c115, .slice A117 ((colL Ls95 c (rs91.length : Int)).length) c118] Tryd.func31 (by kernel_rfl) (by kernel_rfl) (by kernel_rfl)) ?_
                refine (r1same A114 A117 c115 c118 (colL Ls95 c (rs91.length : Int)) (colL Ls95 c (rs91.length : Int)) _ (Rd.row HS (i := 1) rfl) (by omega) (Rd.row HS (i := 0) rfl) (by omega)).mono ?_
                rintro e W120 ⟨rfl, H_⟩
                rw [decide_eq_true (rfl : (colL Ls95 c (rs91.length : Int)) = (colL Ls95 c (rs91.length : Int)))]
                refine ⟨_, rfl, HK.tr H_.kept.nil, ?_⟩
                replace HK := HK.tr H_.kept.nil
                replace HS : St W (owns []) W120 [row A117 ((colL Ls95 c (rs91.length : Int)).length) c118 (ci .i64 (colL Ls95 c (rs91.length : Int))) 3 1, row A114 ((colL Ls95 c (rs91.length : Int)).length) c115 (ci .i64 (colL Ls95 c (rs91.length : Int))) 3 1, row A110 ((rowL Ls95 r).length) c111 (ci .i64 (rowL Ls95 r)) 3 1, row A107 ((rowL Ls95 r).length) c108 (ci .i64 (rowL Ls95 r)) 3 1, blk g42 [.slice (some ⟨a43, 0, none⟩) rs91.length cr44, .int .i64 cols] 87, row (some ⟨a43, 0, none⟩) rs91.length cr44 (cf cpt rs91) 32 1, many (rsE 77 74 cols rs91), row A92 cq94.length c93 (cf actD cq94) 58 2, blk g89 [.int .i64 rows, .int .i64 cols, .slice A92 cq94.length c93] 46, blk g48 [.int .i64 rows, .int .i64 cols, .slice A92 cq94.length c93] 46] := HS.join (F := []) (G := []) H_
                clear H_
                refine t_q (n := 1) 51 (.bool false) rfl (by kernel_rfl) (by kernel_rfl) (fun _ _ _ h => h) (fun w' hk => (by kernel_rfl)) HK ?_
                refine t_q (n := 0) 52 (.bool false) rfl (by kernel_rfl) (by kernel_rfl) (fun _ _ _ h => h) (fun w' hk => (by kernel_rfl)) HK ?_
                refine t_done (by kernel_rfl) ?_
                clear HV HK
                refine x_then ?_
                refine wp_cond_false (by kernel_rfl) ?_
                refine wp_skip ?_
                refine x_inb ?_
                refine x_then ?_
                refine wp_region_lit ?_
                refine ql (.int .i64 k) (by kernel_rfl) (by kernel_rfl) ?_
                refine ql (.int .i64 (k + 1)) (by kernel_rfl) (R_int (by kernel_rfl) (w64 (by omega))) ?_
                refine ql (.int .i64 (k + 1)) (by kernel_rfl) (by kernel_rfl) ?_
                refine wpList_nil ?_
                replace HS : St W (owns []) W120 [blk g42 [.slice (some ⟨a43, 0, none⟩) rs91.length cr44, .int .i64 cols] 87, row (some ⟨a43, 0, none⟩) rs91.length cr44 (cf cpt rs91) 32 1, many (rsE 77 74 cols rs91), blk g48 [.int .i64 rows, .int .i64 cols, .slice A92 cq94.length c93] 46, row A92 cq94.length c93 (cf actD cq94) 58 2] := St.tail (F := [row A117 ((colL Ls95 c (rs91.length : Int)).length) c118 (ci .i64 (colL Ls95 c (rs91.length : Int))) 3 1, row A114 ((colL Ls95 c (rs91.length : Int)).length) c115 (ci .i64 (colL Ls95 c (rs91.length : Int))) 3 1, row A110 ((rowL Ls95 r).length) c111 (ci .i64 (rowL Ls95 r)) 3 1, row A107 ((rowL Ls95 r).length) c108 (ci .i64 (rowL Ls95 r)) 3 1, blk g89 [.int .i64 rows, .int .i64 cols, .slice A92 cq94.length c93] 46]) (HS.perm (perm_ [0, 1, 2, 3, 8, 4, 5, 6, 9, 7] (by kernel_rfl) rfl))
                refine x_then ?_
                exact ⟨l.length - (k + 1).toNat, by omega, (fun k_ : Nat => List.getD ((.int .i64 rows) :: (.int .i64 cols) :: (.slice (some ad56) l.length cl) :: (.int .i64 r) :: (.int .i64 c) :: undef :: undef :: undef :: undef :: undef :: ((J51 10)) :: (.pointer (some ⟨g42, 0, none⟩)) :: (.int .i64 0) :: (.pointer (some ⟨g48, 0, none⟩)) :: (.int .i64 (k + 1)) :: (.pointer (some ⟨g89, 0, none⟩)) :: (.bool true) :: (.slice (some ad56) l.length cl) :: (.int .i64 (l.length : Int)) :: (.bool false) :: (.bool false) :: (.int .i64 rows) :: (.bool false) :: (.bool false) :: undef :: undef :: (.bool false) :: (.bool false) :: (.bool false) :: (.int .i64 cols) :: (.bool false) :: (.bool false) :: undef :: undef :: (.bool false) :: (.bool false) :: undef :: (.tuple #[.pointer (some ⟨g42, 0, none⟩), .int .i64 0]) :: (.int .i64 rows) :: (.int .i64 cols) :: (.tuple #[.pointer (some ⟨g42, 0, none⟩), .int .i64 0]) :: (.pointer (some ⟨g42, 0, none⟩)) :: (.int .i64 0) :: (.int .i64 rows) :: (.bool false) :: (.bool false) :: (.int .i64 cols) :: (.bool false) :: (.bool false) :: undef :: undef :: undef :: undef :: undef :: undef :: undef :: undef :: undef :: (.int .i64 rows) :: (.bool false) :: (.bool false) :: (.int .i64 cols) :: (.bool false) :: (.bool false) :: undef :: undef :: undef :: undef :: undef :: undef :: undef :: undef :: undef :: (.pointer (some ⟨g42, 0, none⟩)) :: (.bool false) :: (.bool false) :: (.int .i64 0) :: (.bool false) :: (.bool false) :: (.int .i64 rows) :: (.int .i64 cols) :: (.agg #[.int .i64 rows, .int .i64 cols, .slice none 0 0]) :: (.int .i64 k) :: (.slice (some ad56) l.length cl) :: (.int .i64 (l.length : Int)) :: (.bool true) :: (.int .i64 k) :: (.int .i64 (k + 1)) :: (.tuple #[.agg #[.int .i64 rows, .int .i64 cols, .slice A92 cq94.length c93], .bool true]) :: (.pointer (some ⟨g42, 0, none⟩)) :: (.agg #[.int .i64 rows, .int .i64 cols, .slice Aq cq_.length cp]) :: (.slice (some ad56) l.length cl) :: (.int .i64 k) :: (.pointer (some (ad56.add (k.toNat * 3)))) :: (.agg #[.int .i64 ((gx l k).1), .int .i64 ((gx l k).2.1), .int .i64 ((gx l k).2.2)]) :: (.tuple #[.agg #[.int .i64 rows, .int .i64 cols, .slice A92 cq94.length c93], .bool true]) :: (.agg #[.int .i64 rows, .int .i64 cols, .slice A92 cq94.length c93]) :: (.bool true) :: (.agg #[.int .i64 rows, .int .i64 cols, .slice A92 cq94.length c93]) :: (.bool true) :: (.bool false) :: (.bool false) :: (.pointer (some ⟨g42, 0, none⟩)) :: (.int .i64 (rs91.length : Int)) :: (.int .i64 rows) :: (.bool false) :: (.bool false) :: (.bool false) :: (.pointer (some ⟨g42, 0, none⟩)) :: (.int .i64 cols) :: (.int .i64 cols) :: (.bool false) :: (.bool false) :: (.bool false) :: (.pointer (some ⟨g42, 0, none⟩)) :: (.int .i64 r) :: (.int .i64 c) :: (.bool (decide (c ∈ rowL Ls95 r))) :: (.agg #[.int .i64 rows, .int .i64 cols, .slice A92 cq94.length c93]) :: (.int .i64 r) :: (.int .i64 c) :: (.bool (decide (c ∈ rowL Ls95 r))) :: (.bool false) :: (.bool false) :: (.bool false) :: (.pointer (some ⟨g42, 0, none⟩)) :: (.int .i64 (cntL Ls95 : Int)) :: (.pointer (some ⟨g48, 2, none⟩)) :: (.slice A92 cq94.length c93) :: (.int .i64 (cq94.length : Int)) :: (.bool false) :: (.bool false) :: (.bool false) :: (.pointer (some ⟨g42, 0, none⟩)) :: (.int .i64 r) :: (.slice A107 ((rowL Ls95 r).length) c108) :: (.agg #[.int .i64 rows, .int .i64 cols, .slice A92 cq94.length c93]) :: (.int .i64 r) :: (.slice A110 ((rowL Ls95 r).length) c111) :: (.bool true) :: (.bool false) :: (.bool false) :: (.bool false) :: (.pointer (some ⟨g42, 0, none⟩)) :: (.int .i64 c) :: (.slice A114 ((colL Ls95 c (rs91.length : Int)).length) c115) :: (.agg #[.int .i64 rows, .int .i64 cols, .slice A92 cq94.length c93]) :: (.int .i64 c) :: (.slice A117 ((colL Ls95 c (rs91.length : Int)).length) c118) :: (.bool true) :: (.bool false) :: (.bool false) :: undef :: []) k_ undef), k + 1, rs91, Ls95, cq94, A92, c93, congrArg Fr (by kernel_rfl), rfl, by omega, by omega, hR96, hM97, (by omega), HS⟩
            · skip
              refine ql (.bool false) (by kernel_rfl) (R_nbool (p := k < (l.length : Int)) (by kernel_rfl) (hc54)) ?_
              refine wpList_nil ?_
              refine x_then ?_
              refine wp_cond_false (by kernel_rfl) ?_
              refine wp_exit ?_
              refine x_thenE ?_
              refine x_thenE ?_
              refine x_hit ?_
              refine x_then ?_
              refine wp_seq ?_
              refine wp_region_lit ?_
              refine qc (f := 23) (args := #[]) (by kernel_rfl) (R_call #[] Tryd.func23 (by kernel_rfl) (by kernel_rfl) (by kernel_rfl)) ?_
              refine (mawake _).mono ?_
              rintro e W121 ⟨rfl, H_⟩
              refine ⟨_, rfl, ?_⟩
              replace HS : St W (owns []) W121 [blk g42 [.slice (some ⟨a43, 0, none⟩) rs_.length cr44, .int .i64 cols] 87, row (some ⟨a43, 0, none⟩) rs_.length cr44 (cf cpt rs_) 32 1, many (rsE 77 74 cols rs_), blk g48 [.int .i64 rows, .int .i64 cols, .slice Aq cq_.length cp] 46, row Aq cq_.length cp (cf actD cq_) 58 2] := HS.join (F := []) (G := []) H_
              clear H_
              refine ql (.bool true) (by kernel_rfl) (by kernel_rfl) ?_
              refine wpList_nil ?_
              refine x_then ?_
              refine wp_ret ?_
              refine ret_ (.bool true) (by kernel_rfl) ?_
              replace HS := HS.drop1
              replace HS := HS.drop1
              replace HS := HS.drop1
              replace HS := HS.drop1
              replace HS := HS.drop1
              exact ⟨rfl, HS⟩

end Go.Proofs.YtgoapobflajliaaDoor
