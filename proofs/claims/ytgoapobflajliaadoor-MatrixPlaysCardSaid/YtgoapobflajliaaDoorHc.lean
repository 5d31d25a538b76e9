/- A matrix of any shape, under any acts, has the members that the document says. This text: the walks through the functions that the statement reaches. No condition but those in the statement. -/
import Derived.WalkKit
import Derived.StillTailTactics
import Derived.Deep.LoopGhost
import Derived.KernelRfl
import Derived.Deep.OwnRows
import Derived.Laws.OwnMore
import Derived.Laws.MakeOwn
import Derived.Maps.AppendAt
import Derived.OrdersHeld
import Derived.Test.YtgoapobflajliaaDoorProg
import Derived.Test.YtgoapobflajliaaDoorHa
import Derived.Test.YtgoapobflajliaaDoorHb
namespace Go.Proofs.YtgoapobflajliaaDoor
open Go Go.RowKit Go.Shelf Go.Proofs.YtgoapobflajliaaDoor.Hp
attribute [local irreducible] wpStill wpList Code.wp TA
set_option linter.unusedVariables false
set_option linter.unusedSimpArgs false

theorem cpt_set {rs : List Rw} {k : Nat} {y z : Nat × Option Addr × Nat × List Int} (h : rs[k]? = some (some z)) (e : y.1 = z.1 := by rfl) : cf cpt rs = cf cpt (rs.set k (some y)) := by
  obtain ⟨hk, h2⟩ := List.getElem?_eq_some_iff.1 h
  have e1 : cpt (some y) = cpt rs[k] := by rw [h2]; unfold cpt; simp [e]
  unfold cf
  rw [List.flatMap_def, List.flatMap_def, List.map_set, e1]
  have e2 : (rs.map cpt).set k (cpt rs[k]) = rs.map cpt := by
    have h3 : (rs.map cpt)[k]'(by rw [List.length_map]; exact hk) = cpt rs[k] := List.getElem_map _
    rw [← h3, List.set_getElem_self]
  rw [e2]
theorem daddu (g c : Nat) (A : Option Addr) (ws : List Int) (n : Int) (L : List Int) (i : Int) (W : World) (M : Nat → Prop) (HS : St W M W [blk g [.slice A ws.length c, .int .i64 n] 77, row A ws.length c (ci .u64 ws) 74 1]) (hR : Rep ws n L) (hn : n ≤ 1048576) : Calls Tryd.prog 18 #[.pointer (some ⟨g, 0, none⟩), .int .i64 i] W fun e W' => ∃ ws', e = .returned (.bool (addB n L i)) ∧ St W M W' [blk g [.slice A ws'.length c, .int .i64 n] 77, row A ws'.length c (ci .u64 ws') 74 1] ∧ Rep ws' n (addL n L i) := by
  by_cases h : 0 ≤ i ∧ i < n
  · by_cases hi : i ∈ L
    · have ha := addL_out (n := n) (.inr (.inr hi))
      refine (dadd_old g c A ws n L i W M HS hR hn hi).mono ?_
      rintro e W' ⟨rfl, H⟩
      exact ⟨ws, by rw [ha.2], H, by rw [ha.1]; exact hR⟩
    · have ha := addL_in h.1 h.2 hi
      refine (dadd_new g c A ws n L i W M HS hR hn h.1 h.2 hi).mono ?_
      rintro e W' ⟨ws', rfl, H, h2⟩
      exact ⟨ws', by rw [ha.2], H, by rw [ha.1]; exact h2⟩
  · have ha := addL_out (n := n) (i := i) (L := L) (by omega)
    refine (dadd_out g c A ws n L i W M HS hR hn (by omega)).mono ?_
    rintro e W' ⟨rfl, H⟩
    exact ⟨ws, by rw [ha.2], H, by rw [ha.1]; exact hR⟩

set_option maxRecDepth 100000 in
set_option maxHeartbeats 1000000 in
theorem madd (g cr : Nat) (R : Option Addr) (cols : Int) (rs : List Rw) (Ls : List (List Int)) (r c : Int) (W : World) (M : Nat → Prop) (HS : St W M W [blk g [.slice R rs.length cr, .int .i64 cols] 87, row R rs.length cr (cf cpt rs) 32 1, many (rsE 77 74 cols rs)]) (hR : MRep rs cols Ls) (hc : cols ≤ 65536) (hl : rs.length ≤ 65536) : Calls Tryd.prog 36 #[.pointer (some ⟨g, 0, none⟩), .int .i64 r, .int .i64 c] W fun e W' => ∃ rs', e = .returned (.bool (addMB Ls cols r c)) ∧ St W M W' [blk g [.slice R rs'.length cr, .int .i64 cols] 87, row R rs'.length cr (cf cpt rs') 32 1, many (rsE 77 74 cols rs')] ∧ MRep rs' cols (addM Ls cols r c) ∧ rs'.length = rs.length := by
  have h0c := hR.c0
  have hlen := hR.len
  refine calls_enter [.pointer (some ⟨g, 0, none⟩), .int .i64 r, .int .i64 c, undef, undef, undef, undef, undef, undef, undef, undef, undef, undef, undef, undef, undef, undef, undef, undef, undef, undef, undef] Tryd.func36 rfl (by kernel_rfl) ?_
  refine wp_seq ?_
  refine wp_region_lit ?_
  refine ql (.bool false) (by kernel_rfl) (by kernel_rfl) ?_
  refine wpList_nil ?_
  refine x_then ?_
  refine wp_seq ?_
  refine wp_region_lit ?_
  refine ql (.int .i64 c) (by kernel_rfl) (by kernel_rfl) ?_
  by_cases hc1 : c ≥ (0 : Int)
  · skip
    refine ql (.bool true) (by kernel_rfl) (R_bool (p := c ≥ (0 : Int)) (by kernel_rfl) (hc1)) ?_
    refine ql (.bool true) (by kernel_rfl) (by kernel_rfl) ?_
    refine ql (.int .i64 c) (by kernel_rfl) (by kernel_rfl) ?_
    refine ql (.pointer (some ⟨g, 0, none⟩)) (by kernel_rfl) (by kernel_rfl) ?_
    refine qc (f := 27) (args := #[.pointer (some ⟨g, 0, none⟩)]) (by kernel_rfl) (R_call #[.pointer (some ⟨g, 0, none⟩)] Tryd.func27 (by kernel_rfl) (by kernel_rfl) (by kernel_rfl)) ?_
    refine (mcols g cr R cols rs Ls _ (Mr.of HS (i := 0) (j := 1) (m := 2) rfl rfl rfl) hR hc hl).mono ?_
    rintro e W2 ⟨rfl, H_⟩
    refine ⟨_, rfl, ?_⟩
    replace HS : St W M W2 [blk g [.slice R rs.length cr, .int .i64 cols] 87, row R rs.length cr (cf cpt rs) 32 1, many (rsE 77 74 cols rs)] := HS.join (F := []) (G := []) H_
    clear H_
    by_cases hc3 : c < cols
    · skip
      refine ql (.bool true) (by kernel_rfl) (R_bool (p := c < cols) (by kernel_rfl) (hc3)) ?_
      refine ql (.bool true) (by kernel_rfl) (by kernel_rfl) ?_
      refine ql (.bool true) (by kernel_rfl) (by kernel_rfl) ?_
      refine ql (.pointer (some ⟨g, 0, none⟩)) (by kernel_rfl) (by kernel_rfl) ?_
      refine ql (.int .i64 r) (by kernel_rfl) (by kernel_rfl) ?_
      refine qc (f := 57) (args := #[.pointer (some ⟨g, 0, none⟩), .int .i64 r]) (by kernel_rfl) (R_call #[.pointer (some ⟨g, 0, none⟩), .int .i64 r] Tryd.func57 (by kernel_rfl) (by kernel_rfl) (by kernel_rfl)) ?_
      by_cases hin : 0 ≤ r ∧ r < rs.length
      · skip
        refine (mown g cr R cols rs Ls r _ _ (St.focus (F := [blk g [.slice R rs.length cr, .int .i64 cols] 87, row R rs.length cr (cf cpt rs) 32 1, many (rsE 77 74 cols rs)]) HS) hR hc hl hin.1 hin.2).mono ?_
        rintro e W4 ⟨rs9, g2, c2, A2, ws2, rfl, H_, hR9, hg9, hl9, hk9⟩
        have hg9s := mget_some hg9
        have hS9 : Rep ws2 cols (rowL Ls r) := hR9.some_ hg9
        refine ⟨_, rfl, ?_⟩
        replace HS : St W M W4 [blk g [.slice R rs9.length cr, .int .i64 cols] 87, row R rs9.length cr (cf cpt rs9) 32 1, many (rsE 77 74 cols rs9)] := HS.join (F := [blk g [.slice R rs.length cr, .int .i64 cols] 87, row R rs.length cr (cf cpt rs) 32 1, many (rsE 77 74 cols rs)]) (G := [blk g [.slice R rs9.length cr, .int .i64 cols] 87, row R rs9.length cr (cf cpt rs9) 32 1, many (rsE 77 74 cols rs9)]) H_
        clear H_
        refine ql (.int .i64 c) (by kernel_rfl) (by kernel_rfl) ?_
        refine qc (f := 18) (args := #[.pointer (some ⟨g2, 0, none⟩), .int .i64 c]) (by kernel_rfl) (R_call #[.pointer (some ⟨g2, 0, none⟩), .int .i64 c] Tryd.func18 (by kernel_rfl) (by kernel_rfl) (by kernel_rfl)) ?_
        replace HS : St W M W4 [many (rsE 77 74 cols rs9), blk g [.slice R rs9.length cr, .int .i64 cols] 87, row R rs9.length cr (cf cpt rs9) 32 1] := HS.perm (perm_ [2, 0, 1] (by kernel_rfl) rfl)
        replace HS : St W M W4 [blk g2 [.slice A2 ws2.length c2, .int .i64 cols] 77, row A2 ws2.length c2 (ci .u64 ws2) 74 1, many (rsE 77 74 cols (rs9.eraseIdx r.toNat)), blk g [.slice R rs9.length cr, .int .i64 cols] 87, row R rs9.length cr (cf cpt rs9) 32 1] := HS.takeE (x := some (g2, A2, c2, ws2)) hg9s.2.2
        refine (daddu g2 c2 A2 ws2 cols (rowL Ls r) c _ _ (St.focus (F := [blk g2 [.slice A2 ws2.length c2, .int .i64 cols] 77, row A2 ws2.length c2 (ci .u64 ws2) 74 1]) HS) hS9 (by omega)).mono ?_
        rintro e W5 ⟨ws3, rfl, H_, hR3⟩
        refine ⟨_, rfl, ?_⟩
        replace HS : St W M W5 [blk g2 [.slice A2 ws3.length c2, .int .i64 cols] 77, row A2 ws3.length c2 (ci .u64 ws3) 74 1, many (rsE 77 74 cols (rs9.eraseIdx r.toNat)), blk g [.slice R rs9.length cr, .int .i64 cols] 87, row R rs9.length cr (cf cpt rs9) 32 1] := HS.join (F := [blk g2 [.slice A2 ws2.length c2, .int .i64 cols] 77, row A2 ws2.length c2 (ci .u64 ws2) 74 1]) (G := [blk g2 [.slice A2 ws3.length c2, .int .i64 cols] 77, row A2 ws3.length c2 (ci .u64 ws3) 74 1]) H_
        clear H_
        refine ql (.bool (addB cols (rowL Ls r) c)) (by kernel_rfl) (by kernel_rfl) ?_
        refine ql (.bool (addB cols (rowL Ls r) c)) (by kernel_rfl) (by kernel_rfl) ?_
        refine wpList_nil ?_
        refine x_then ?_
        refine wp_ret ?_
        refine ret_ (.bool (addB cols (rowL Ls r) c)) (by kernel_rfl) ?_
        replace HS : St W M W5 [many (rsE 77 74 cols (rs9.set r.toNat (some (g2, A2, c2, ws3)))), blk g [.slice R rs9.length cr, .int .i64 cols] 87, row R rs9.length cr (cf cpt rs9) 32 1] := St.giveE (y := (some (g2, A2, c2, ws3))) (by omega) HS
        replace HS : St W M W5 [blk g [.slice R rs9.length cr, .int .i64 cols] 87, row R rs9.length cr (cf cpt rs9) 32 1, many (rsE 77 74 cols (rs9.set r.toNat (some (g2, A2, c2, ws3))))] := HS.perm (perm_ [1, 2, 0] (by kernel_rfl) rfl)
        have hlq : rs9.length = (rs9.set r.toNat (some (g2, A2, c2, ws3))).length := by rw [List.length_set]
        rw [hlq] at HS
        have ha := addM_in (Ls := Ls) (cols := cols) (r := r) (c := c) hin.1 (by omega)
        have hcf : cf cpt rs9 = cf cpt (rs9.set r.toNat (some (g2, A2, c2, ws3))) := cpt_set hg9s.2.2
        rw [hcf] at HS
        exact ⟨_, by rw [ha.2], HS, by rw [ha.1]; exact hR9.set_ (y := (g2, A2, c2, ws3)) hR3, by rw [List.length_set]; exact hl9⟩
      · skip
        refine (mown_o g cr R cols rs Ls r _ _ (St.focus (F := [blk g [.slice R rs.length cr, .int .i64 cols] 87, row R rs.length cr (cf cpt rs) 32 1, many (rsE 77 74 cols rs)]) HS) hR hc hl (by omega)).mono ?_
        rintro e W6 ⟨rfl, H_⟩
        refine ⟨_, rfl, ?_⟩
        replace HS : St W M W6 [blk g [.slice R rs.length cr, .int .i64 cols] 87, row R rs.length cr (cf cpt rs) 32 1, many (rsE 77 74 cols rs)] := HS.join (F := [blk g [.slice R rs.length cr, .int .i64 cols] 87, row R rs.length cr (cf cpt rs) 32 1, many (rsE 77 74 cols rs)]) (G := [blk g [.slice R rs.length cr, .int .i64 cols] 87, row R rs.length cr (cf cpt rs) 32 1, many (rsE 77 74 cols rs)]) H_
        clear H_
        refine ql (.int .i64 c) (by kernel_rfl) (by kernel_rfl) ?_
        refine qc (f := 18) (args := #[.pointer none, .int .i64 c]) (by kernel_rfl) (R_call #[.pointer none, .int .i64 c] Tryd.func18 (by kernel_rfl) (by kernel_rfl) (by kernel_rfl)) ?_
        refine (dadd_nil _ _).mono ?_
        rintro e W7 ⟨rfl, H_⟩
        refine ⟨_, rfl, ?_⟩
        replace HS : St W M W7 [blk g [.slice R rs.length cr, .int .i64 cols] 87, row R rs.length cr (cf cpt rs) 32 1, many (rsE 77 74 cols rs)] := HS.join (F := []) (G := []) H_
        clear H_
        refine ql (.bool false) (by kernel_rfl) (by kernel_rfl) ?_
        refine ql (.bool false) (by kernel_rfl) (by kernel_rfl) ?_
        refine wpList_nil ?_
        refine x_then ?_
        refine wp_ret ?_
        refine ret_ (.bool false) (by kernel_rfl) ?_
        have ha := addM_r (Ls := Ls) (cols := cols) (r := r) (c := c) (by omega)
        exact ⟨rs, by rw [ha.2], HS, by rw [ha.1]; exact hR, rfl⟩
    · skip
      refine ql (.bool false) (by kernel_rfl) (R_nbool (p := c < cols) (by kernel_rfl) (hc3)) ?_
      refine ql (.bool false) (by kernel_rfl) (by kernel_rfl) ?_
      refine ql (.bool false) (by kernel_rfl) (by kernel_rfl) ?_
      refine qln (by kernel_rfl) ?_
      refine qln (by kernel_rfl) ?_
      refine qln (by kernel_rfl) ?_
      refine qln (by kernel_rfl) ?_
      refine qln (by kernel_rfl) ?_
      refine ql (.bool false) (by kernel_rfl) (by kernel_rfl) ?_
      refine ql (.bool false) (by kernel_rfl) (by kernel_rfl) ?_
      refine wpList_nil ?_
      refine x_then ?_
      refine wp_ret ?_
      refine ret_ (.bool false) (by kernel_rfl) ?_
      have ha := addM_c (Ls := Ls) (cols := cols) (r := r) (c := c) (by omega)
      exact ⟨rs, by rw [ha.2], HS, by rw [ha.1]; exact hR, rfl⟩
  · skip
    refine ql (.bool false) (by kernel_rfl) (R_nbool (p := c ≥ (0 : Int)) (by kernel_rfl) (hc1)) ?_
    refine ql (.bool false) (by kernel_rfl) (by kernel_rfl) ?_
    refine qln (by kernel_rfl) ?_
    refine qln (by kernel_rfl) ?_
    refine qln (by kernel_rfl) ?_
    refine qln (by kernel_rfl) ?_
    refine ql (.bool false) (by kernel_rfl) (by kernel_rfl) ?_
    refine ql (.bool false) (by kernel_rfl) (by kernel_rfl) ?_
    refine qln (by kernel_rfl) ?_
    refine qln (by kernel_rfl) ?_
    refine qln (by kernel_rfl) ?_
    refine qln (by kernel_rfl) ?_
    refine qln (by kernel_rfl) ?_
    refine ql (.bool false) (by kernel_rfl) (by kernel_rfl) ?_
    refine ql (.bool false) (by kernel_rfl) (by kernel_rfl) ?_
    refine wpList_nil ?_
    refine x_then ?_
    refine wp_ret ?_
    refine ret_ (.bool false) (by kernel_rfl) ?_
    have ha := addM_c (Ls := Ls) (cols := cols) (r := r) (c := c) (by omega)
    exact ⟨rs, by rw [ha.2], HS, by rw [ha.1]; exact hR, rfl⟩

set_option maxRecDepth 100000 in
set_option maxHeartbeats 1000000 in
theorem dor_self (g c : Nat) (A : Option Addr) (ws : List Int) (n : Int) (L : List Int) (W : World) (M : Nat → Prop) (HS : St W M W [blk g [.slice A ws.length c, .int .i64 n] 77, row A ws.length c (ci .u64 ws) 74 1]) (hR : Rep ws n L) (hn : n ≤ 1048576) : Calls Tryd.prog 58 #[.pointer (some ⟨g, 0, none⟩), .pointer (some ⟨g, 0, none⟩)] W fun e W' => e = .returned (.bool false) ∧ St W M W' [blk g [.slice A ws.length c, .int .i64 n] 77, row A ws.length c (ci .u64 ws) 74 1] := by
  have hwl := hR.len
  have hrc := HS.rcap (i := 1) rfl
  refine calls_enter ((.pointer (some ⟨g, 0, none⟩)) :: (.pointer (some ⟨g, 0, none⟩)) :: undef :: undef :: undef :: undef :: undef :: undef :: undef :: undef :: undef :: undef :: undef :: undef :: undef :: undef :: undef :: undef :: undef :: undef :: undef :: undef :: undef :: undef :: undef :: undef :: undef :: undef :: undef :: undef :: undef :: undef :: undef :: undef :: undef :: undef :: undef :: undef :: undef :: undef :: undef :: undef :: undef :: undef :: undef :: undef :: undef :: undef :: undef :: undef :: undef :: undef :: undef :: undef :: undef :: undef :: undef :: undef :: undef :: []) Tryd.func58 rfl (by kernel_rfl) ?_
  refine wp_seq ?_
  refine wp_region_lit ?_
  refine ql (.bool false) (by kernel_rfl) (by kernel_rfl) ?_
  refine wpList_nil ?_
  refine x_then ?_
  refine wp_seq ?_
  refine wp_seq ?_
  refine rg_still HS 16 (by kernel_rfl) (by kernel_rfl) ?_
  intro W1 H_ HK_
  simp only [List.take_succ_cons, List.take_zero, List.drop_succ_cons, List.drop_zero]
  replace HS : St W M W1 [blk g [.slice A ws.length c, .int .i64 n] 77, row A ws.length c (ci .u64 ws) 74 1] := H_
  clear H_
  clear HK_
  refine qs (.pointer (some ⟨g, 0, none⟩)) (by kernel_rfl) (by kernel_rfl) ?_
  refine qs (.bool false) (by kernel_rfl) (by kernel_rfl) ?_
  refine qs (.bool false) (by kernel_rfl) (by kernel_rfl) ?_
  refine qs (.pointer (some ⟨g, 0, none⟩)) (by kernel_rfl) (by kernel_rfl) ?_
  refine qs (.bool false) (by kernel_rfl) (by kernel_rfl) ?_
  refine qs (.bool false) (by kernel_rfl) (by kernel_rfl) ?_
  refine qs (.bool false) (by kernel_rfl) (by kernel_rfl) ?_
  refine qs (.pointer (some ⟨g, 0, none⟩)) (by kernel_rfl) (by kernel_rfl) ?_
  refine qs (.pointer (some ⟨g, 0, none⟩)) (by kernel_rfl) (by kernel_rfl) ?_
  refine qs (.pointer (some ⟨g, 1, none⟩)) (by kernel_rfl) (by kernel_rfl) ?_
  refine qs (.int .i64 n) (by kernel_rfl) (R_load (p := ⟨g, 1, none⟩) (by kernel_rfl) (by kernel_rfl) (by kernel_rfl) (HS.cell (i := 0) (j := 1) rfl rfl)) ?_
  refine qs (.pointer (some ⟨g, 0, none⟩)) (by kernel_rfl) (by kernel_rfl) ?_
  refine qs (.pointer (some ⟨g, 0, none⟩)) (by kernel_rfl) (by kernel_rfl) ?_
  refine qs (.pointer (some ⟨g, 1, none⟩)) (by kernel_rfl) (by kernel_rfl) ?_
  refine qs (.int .i64 n) (by kernel_rfl) (R_load (p := ⟨g, 1, none⟩) (by kernel_rfl) (by kernel_rfl) (by kernel_rfl) (HS.cell (i := 0) (j := 1) rfl rfl)) ?_
  refine qs (.bool false) (by kernel_rfl) (R_beq (b := (n != n)) (by kernel_rfl) (bne_f (by omega))) ?_
  refine wpStill_nil ?_
  refine ql (.bool false) (by kernel_rfl) (by kernel_rfl) ?_
  refine wpList_nil ?_
  refine x_then ?_
  refine wp_cond_false (by kernel_rfl) ?_
  refine wp_skip ?_
  refine x_then ?_
  refine wp_seq ?_
  refine wp_region_lit ?_
  refine ql (.int .u64 0) (by kernel_rfl) (by kernel_rfl) ?_
  refine wpList_nil ?_
  refine x_then ?_
  refine wp_seq ?_
  refine wp_seq ?_
  refine wp_region_lit ?_
  refine ql (.pointer (some ⟨g, 0, none⟩)) (by kernel_rfl) (by kernel_rfl) ?_
  refine ql (.pointer (some ⟨g, 0, none⟩)) (by kernel_rfl) (by kernel_rfl) ?_
  refine ql (.pointer (some ⟨g, 0, none⟩)) (by kernel_rfl) (by kernel_rfl) ?_
  refine ql (.slice A ws.length c) (by kernel_rfl) (R_load (p := ⟨g, 0, none⟩) (by kernel_rfl) (by kernel_rfl) (by kernel_rfl) (HS.cell (i := 0) (j := 0) rfl rfl)) ?_
  refine ql (.int .i64 (ws.length : Int)) (by kernel_rfl) (by kernel_rfl) ?_
  refine ql (.int .i64 0) (by kernel_rfl) (by kernel_rfl) ?_
  refine wpList_nil ?_
  refine x_then ?_
  refine wp_block ?_
  refine wp_loop_ghost (fun kq a' w' => ∃ (J2 : Nat → Value) (k : Int) , a' = Fr ((.pointer (some ⟨g, 0, none⟩)) :: (.pointer (some ⟨g, 0, none⟩)) :: undef :: undef :: (.bool false) :: (.int .u64 0) :: ((J2 6)) :: ((J2 7)) :: (.pointer (some ⟨g, 0, none⟩)) :: (.bool false) :: (.bool false) :: (.pointer (some ⟨g, 0, none⟩)) :: (.bool false) :: (.bool false) :: (.bool false) :: (.pointer (some ⟨g, 0, none⟩)) :: (.pointer (some ⟨g, 0, none⟩)) :: (.pointer (some ⟨g, 1, none⟩)) :: (.int .i64 n) :: (.pointer (some ⟨g, 0, none⟩)) :: (.pointer (some ⟨g, 0, none⟩)) :: (.pointer (some ⟨g, 1, none⟩)) :: (.int .i64 n) :: (.bool false) :: (.bool false) :: (.pointer (some ⟨g, 0, none⟩)) :: (.pointer (some ⟨g, 0, none⟩)) :: (.pointer (some ⟨g, 0, none⟩)) :: (.slice A ws.length c) :: (.int .i64 (ws.length : Int)) :: (.int .i64 k) :: ((J2 31)) :: ((J2 32)) :: ((J2 33)) :: ((J2 34)) :: ((J2 35)) :: ((J2 36)) :: ((J2 37)) :: ((J2 38)) :: ((J2 39)) :: ((J2 40)) :: ((J2 41)) :: ((J2 42)) :: ((J2 43)) :: ((J2 44)) :: ((J2 45)) :: ((J2 46)) :: ((J2 47)) :: ((J2 48)) :: ((J2 49)) :: ((J2 50)) :: ((J2 51)) :: ((J2 52)) :: ((J2 53)) :: ((J2 54)) :: ((J2 55)) :: ((J2 56)) :: undef :: undef :: []) ∧ kq = (ws.length - (k).toNat) ∧ (0 ≤ k) ∧ (k ≤ ws.length) ∧ St W M w' [blk g [.slice A ws.length c, .int .i64 n] 77, row A ws.length c (ci .u64 ws) 74 1]) (ws.length - ((0 : Int)).toNat) ⟨(fun k_ : Nat => List.getD ((.pointer (some ⟨g, 0, none⟩)) :: (.pointer (some ⟨g, 0, none⟩)) :: undef :: undef :: (.bool false) :: (.int .u64 0) :: undef :: undef :: (.pointer (some ⟨g, 0, none⟩)) :: (.bool false) :: (.bool false) :: (.pointer (some ⟨g, 0, none⟩)) :: (.bool false) :: (.bool false) :: (.bool false) :: (.pointer (some ⟨g, 0, none⟩)) :: (.pointer (some ⟨g, 0, none⟩)) :: (.pointer (some ⟨g, 1, none⟩)) :: (.int .i64 n) :: (.pointer (some ⟨g, 0, none⟩)) :: (.pointer (some ⟨g, 0, none⟩)) :: (.pointer (some ⟨g, 1, none⟩)) :: (.int .i64 n) :: (.bool false) :: (.bool false) :: (.pointer (some ⟨g, 0, none⟩)) :: (.pointer (some ⟨g, 0, none⟩)) :: (.pointer (some ⟨g, 0, none⟩)) :: (.slice A ws.length c) :: (.int .i64 (ws.length : Int)) :: (.int .i64 0) :: undef :: undef :: undef :: undef :: undef :: undef :: undef :: undef :: undef :: undef :: undef :: undef :: undef :: undef :: undef :: undef :: undef :: undef :: undef :: undef :: undef :: undef :: undef :: undef :: undef :: undef :: undef :: undef :: []) k_ undef), (0 : Int), congrArg Fr (by kernel_rfl), rfl, by omega, by omega, HS⟩ ?_
  clear HS
  intro kq3 a' W4 hrel
  obtain ⟨J2, k, rfl, hk, k0, k1, HS⟩ := hrel
  refine wp_seq ?_
  refine wp_region_lit ?_
  by_cases hc5 : k < (ws.length : Int)
  · skip
    refine ql (.bool true) (by kernel_rfl) (R_bool (p := k < (ws.length : Int)) (by kernel_rfl) (hc5)) ?_
    refine wpList_nil ?_
    refine x_then ?_
    refine wp_seq ?_
    refine wp_cond_true (by kernel_rfl) ?_
    refine wp_skip ?_
    refine x_then ?_
    refine wp_seq ?_
    refine wp_block ?_
    refine wp_seq ?_
    refine wp_region_lit ?_
    refine ql (.int .i64 k) (by kernel_rfl) (by kernel_rfl) ?_
    obtain ⟨g6, rfl⟩ := St.rsome HS (i := 1) rfl (by omega)
    refine ql (.pointer (some ⟨g6, k.toNat, none⟩)) (by kernel_rfl) (R_index1 (k := .i64) (g := g6) (n := ws.length) (c := c) (i := k) (by kernel_rfl) (by kernel_rfl) Tryd.underlying75 (by kernel_rfl) (by omega) (by omega)) ?_
    refine ql (.int .u64 (rdI ws k)) (by kernel_rfl) (R_load (p := ⟨g6, k.toNat, none⟩) (by kernel_rfl) (by kernel_rfl) (by kernel_rfl) (HS.rcell (i := 1) rfl (ci_rd (i := k) (by omega) (by omega)))) ?_
    refine ql (.int .i64 k) (by kernel_rfl) (by kernel_rfl) ?_
    refine ql (.int .u64 (rdI ws k)) (by kernel_rfl) (by kernel_rfl) ?_
    refine wpList_nil ?_
    refine x_then ?_
    refine wp_seq ?_
    refine wp_region_lit ?_
    refine ql (.int .u64 0) (by kernel_rfl) (by kernel_rfl) ?_
    refine ql (.int .u64 (rdI ws k)) (by kernel_rfl) (by kernel_rfl) ?_
    refine ql (.pointer (some ⟨g, 0, none⟩)) (by kernel_rfl) (by kernel_rfl) ?_
    refine ql (.pointer (some ⟨g, 0, none⟩)) (by kernel_rfl) (by kernel_rfl) ?_
    refine ql (.pointer (some ⟨g, 0, none⟩)) (by kernel_rfl) (by kernel_rfl) ?_
    refine ql (.slice (some ⟨g6, 0, none⟩) ws.length c) (by kernel_rfl) (R_load (p := ⟨g, 0, none⟩) (by kernel_rfl) (by kernel_rfl) (by kernel_rfl) (HS.cell (i := 0) (j := 0) rfl rfl)) ?_
    refine ql (.int .i64 k) (by kernel_rfl) (by kernel_rfl) ?_
    refine ql (.pointer (some ⟨g6, k.toNat, none⟩)) (by kernel_rfl) (R_index1 (k := .i64) (g := g6) (n := ws.length) (c := c) (i := k) (by kernel_rfl) (by kernel_rfl) Tryd.underlying75 (by kernel_rfl) (by omega) (by omega)) ?_
    refine ql (.int .u64 (rdI ws k)) (by kernel_rfl) (R_load (p := ⟨g6, k.toNat, none⟩) (by kernel_rfl) (by kernel_rfl) (by kernel_rfl) (HS.rcell (i := 1) rfl (ci_rd (i := k) (by omega) (by omega)))) ?_
    refine ql (.int .u64 (anW (rdI ws k) (rdI ws k))) (by kernel_rfl) (R_an (by kernel_rfl) (by kernel_rfl) (hR.rd k0 (by omega)) (hR.rd k0 (by omega))) ?_
    refine ql (.int .u64 (orW 0 (anW (rdI ws k) (rdI ws k)))) (by kernel_rfl) (R_or (by kernel_rfl) (by kernel_rfl) (u_lit 0 (by decide)) (u_an (hR.rd k0 (by omega)) (hR.rd k0 (by omega)))) ?_
    refine ql (.int .u64 (orW 0 (anW (rdI ws k) (rdI ws k)))) (by kernel_rfl) (by kernel_rfl) ?_
    refine wpList_nil ?_
    refine x_then ?_
    refine wp_region_lit ?_
    refine ql (.pointer (some ⟨g, 0, none⟩)) (by kernel_rfl) (by kernel_rfl) ?_
    refine ql (.pointer (some ⟨g, 0, none⟩)) (by kernel_rfl) (by kernel_rfl) ?_
    refine ql (.pointer (some ⟨g, 0, none⟩)) (by kernel_rfl) (by kernel_rfl) ?_
    refine ql (.slice (some ⟨g6, 0, none⟩) ws.length c) (by kernel_rfl) (R_load (p := ⟨g, 0, none⟩) (by kernel_rfl) (by kernel_rfl) (by kernel_rfl) (HS.cell (i := 0) (j := 0) rfl rfl)) ?_
    refine ql (.int .i64 k) (by kernel_rfl) (by kernel_rfl) ?_
    refine ql (.pointer (some ⟨g6, k.toNat, none⟩)) (by kernel_rfl) (R_index1 (k := .i64) (g := g6) (n := ws.length) (c := c) (i := k) (by kernel_rfl) (by kernel_rfl) Tryd.underlying75 (by kernel_rfl) (by omega) (by omega)) ?_
    refine ql (.int .u64 (rdI ws k)) (by kernel_rfl) (R_load (p := ⟨g6, k.toNat, none⟩) (by kernel_rfl) (by kernel_rfl) (by kernel_rfl) (HS.rcell (i := 1) rfl (ci_rd (i := k) (by omega) (by omega)))) ?_
    refine ql (.int .u64 (rdI ws k)) (by kernel_rfl) (by kernel_rfl) ?_
    refine ql (.int .u64 (orW (rdI ws k) (rdI ws k))) (by kernel_rfl) (R_or (by kernel_rfl) (by kernel_rfl) (hR.rd k0 (by omega)) (hR.rd k0 (by omega))) ?_
    refine ql (.pointer (some ⟨g6, k.toNat, none⟩)) (by kernel_rfl) (R_index1 (k := .i64) (g := g6) (n := ws.length) (c := c) (i := k) (by kernel_rfl) (by kernel_rfl) Tryd.underlying75 (by kernel_rfl) (by omega) (by omega)) ?_
    refine kr (v := .int .u64 (orW (rdI ws k) (rdI ws k))) HS 1 rfl (k.toNat) [.int .u64 (orW (rdI ws k) (rdI ws k))] (by kernel_rfl) (by kernel_rfl) (by kernel_rfl) (by kernel_rfl) (by kernel_rfl) (one_ (by kernel_rfl)) (by rw [ci_len]; first | omega | (simp only [List.length_singleton]; omega)) rfl ?_
    intro W7 H_
    obtain ⟨xs8, xs8_⟩ : ∃ z_ : List Int, z_ = (ws).set k.toNat (orW (rdI ws k) (rdI ws k)) := ⟨_, rfl⟩
    replace HS : St W M W7 [blk g [.slice (some ⟨g6, 0, none⟩) ws.length c, .int .i64 n] 77, row (some ⟨g6, 0, none⟩) ws.length c (ci .u64 xs8) 74 1] := H_.cast_ (by rw [xs8_, ← ci_set]; rfl)
    clear H_
    have xs8l : xs8.length = ws.length := by rw [xs8_, List.length_set]; first | done | omega
    refine wpList_nil ?_
    refine x_inb ?_
    refine x_then ?_
    refine wp_region_lit ?_
    refine ql (.int .i64 (k + 1)) (by kernel_rfl) (R_int (by kernel_rfl) (w64 (by omega))) ?_
    refine ql (.int .i64 (k + 1)) (by kernel_rfl) (by kernel_rfl) ?_
    refine wpList_nil ?_
    have hqw : xs8 = ws := by rw [xs8_, orW_self (hR.rd k0 (by omega))]; exact set_rd k0 (by omega)
    rw [hqw] at HS
    have hch : orW 0 (anW (rdI ws k) (rdI ws k)) = 0 := by rw [anW_self (hR.rd k0 (by omega)), orW_self (w := 0) (u_lit 0 (by decide))]
    rw [hch]
    refine x_then ?_
    exact ⟨ws.length - (k + 1).toNat, by omega, (fun k_ : Nat => List.getD ((.pointer (some ⟨g, 0, none⟩)) :: (.pointer (some ⟨g, 0, none⟩)) :: undef :: undef :: (.bool false) :: (.int .u64 0) :: (.int .i64 k) :: (.int .u64 (rdI ws k)) :: (.pointer (some ⟨g, 0, none⟩)) :: (.bool false) :: (.bool false) :: (.pointer (some ⟨g, 0, none⟩)) :: (.bool false) :: (.bool false) :: (.bool false) :: (.pointer (some ⟨g, 0, none⟩)) :: (.pointer (some ⟨g, 0, none⟩)) :: (.pointer (some ⟨g, 1, none⟩)) :: (.int .i64 n) :: (.pointer (some ⟨g, 0, none⟩)) :: (.pointer (some ⟨g, 0, none⟩)) :: (.pointer (some ⟨g, 1, none⟩)) :: (.int .i64 n) :: (.bool false) :: (.bool false) :: (.pointer (some ⟨g, 0, none⟩)) :: (.pointer (some ⟨g, 0, none⟩)) :: (.pointer (some ⟨g, 0, none⟩)) :: (.slice (some ⟨g6, 0, none⟩) ws.length c) :: (.int .i64 (ws.length : Int)) :: (.int .i64 (k + 1)) :: (.bool true) :: (.int .i64 k) :: (.pointer (some ⟨g6, k.toNat, none⟩)) :: (.int .u64 (rdI ws k)) :: (.int .u64 0) :: (.int .u64 (rdI ws k)) :: (.pointer (some ⟨g, 0, none⟩)) :: (.pointer (some ⟨g, 0, none⟩)) :: (.pointer (some ⟨g, 0, none⟩)) :: (.slice (some ⟨g6, 0, none⟩) ws.length c) :: (.int .i64 k) :: (.pointer (some ⟨g6, k.toNat, none⟩)) :: (.int .u64 (rdI ws k)) :: (.int .u64 (anW (rdI ws k) (rdI ws k))) :: (.int .u64 0) :: (.pointer (some ⟨g, 0, none⟩)) :: (.pointer (some ⟨g, 0, none⟩)) :: (.pointer (some ⟨g, 0, none⟩)) :: (.slice (some ⟨g6, 0, none⟩) ws.length c) :: (.int .i64 k) :: (.pointer (some ⟨g6, k.toNat, none⟩)) :: (.int .u64 (rdI ws k)) :: (.int .u64 (rdI ws k)) :: (.int .u64 (orW (rdI ws k) (rdI ws k))) :: (.pointer (some ⟨g6, k.toNat, none⟩)) :: (.int .i64 (k + 1)) :: undef :: undef :: []) k_ undef), k + 1, congrArg Fr (by kernel_rfl), rfl, by omega, by omega, HS⟩
  · skip
    refine ql (.bool false) (by kernel_rfl) (R_nbool (p := k < (ws.length : Int)) (by kernel_rfl) (hc5)) ?_
    refine wpList_nil ?_
    refine x_then ?_
    refine wp_seq ?_
    refine wp_cond_false (by kernel_rfl) ?_
    refine wp_exit ?_
    refine x_thenE ?_
    refine x_thenE ?_
    refine x_hit ?_
    refine x_then ?_
    refine wp_seq ?_
    refine wp_region_lit ?_
    refine ql (.int .u64 0) (by kernel_rfl) (by kernel_rfl) ?_
    refine ql (.bool false) (by kernel_rfl) (R_beq (b := ((0 : Int) != 0)) (by kernel_rfl) (by decide)) ?_
    refine ql (.bool false) (by kernel_rfl) (by kernel_rfl) ?_
    refine wpList_nil ?_
    refine x_then ?_
    refine wp_ret ?_
    refine ret_ (.bool false) (by kernel_rfl) ?_
    exact ⟨rfl, HS⟩

set_option maxRecDepth 100000 in
set_option maxHeartbeats 1000000 in
theorem mor (g cr : Nat) (R : Option Addr) (cols : Int) (rs : List Rw) (Ls : List (List Int)) (r o : Int) (W : World) (M : Nat → Prop) (HS : St W M W [blk g [.slice R rs.length cr, .int .i64 cols] 87, row R rs.length cr (cf cpt rs) 32 1, many (rsE 77 74 cols rs)]) (hR : MRep rs cols Ls) (hc : cols ≤ 65536) (hl : rs.length ≤ 65536) : Calls Tryd.prog 38 #[.pointer (some ⟨g, 0, none⟩), .int .i64 r, .int .i64 o] W fun e W' => ∃ rs', e = .returned (.bool (orMB Ls r o)) ∧ St W M W' [blk g [.slice R rs'.length cr, .int .i64 cols] 87, row R rs'.length cr (cf cpt rs') 32 1, many (rsE 77 74 cols rs')] ∧ MRep rs' cols (orM Ls r o) ∧ rs'.length = rs.length := by
  have h0c := hR.c0
  have hlen := hR.len
  refine calls_enter [.pointer (some ⟨g, 0, none⟩), .int .i64 r, .int .i64 o, undef, undef, undef, undef, undef, undef, undef, undef, undef, undef, undef, undef, undef, undef, undef, undef, undef] Tryd.func38 rfl (by kernel_rfl) ?_
  refine wp_seq ?_
  refine wp_region_lit ?_
  refine ql (.bool false) (by kernel_rfl) (by kernel_rfl) ?_
  refine wpList_nil ?_
  refine x_then ?_
  refine wp_seq ?_
  refine wp_region_lit ?_
  refine ql (.pointer (some ⟨g, 0, none⟩)) (by kernel_rfl) (by kernel_rfl) ?_
  refine ql (.int .i64 o) (by kernel_rfl) (by kernel_rfl) ?_
  refine qc (f := 55) (args := #[.pointer (some ⟨g, 0, none⟩), .int .i64 o]) (by kernel_rfl) (R_call #[.pointer (some ⟨g, 0, none⟩), .int .i64 o] Tryd.func55 (by kernel_rfl) (by kernel_rfl) (by kernel_rfl)) ?_
  rcases hx : mget rs o with _ | ⟨g1, A1, c1, ws1⟩
  · skip
    refine (mrow_n g cr R cols rs Ls o _ (Mr.of HS (i := 0) (j := 1) (m := 2) rfl rfl rfl) hR hc hl hx).mono ?_
    rintro e W1 ⟨rfl, H_⟩
    refine ⟨_, rfl, ?_⟩
    replace HS : St W M W1 [blk g [.slice R rs.length cr, .int .i64 cols] 87, row R rs.length cr (cf cpt rs) 32 1, many (rsE 77 74 cols rs)] := HS.join (F := []) (G := []) H_
    clear H_
    refine ql (.pointer none) (by kernel_rfl) (by kernel_rfl) ?_
    refine wpList_nil ?_
    refine x_then ?_
    refine wp_seq ?_
    refine wp_region_lit ?_
    refine ql (.pointer none) (by kernel_rfl) (by kernel_rfl) ?_
    refine ql (.bool false) (by kernel_rfl) (by kernel_rfl) ?_
    refine ql (.bool false) (by kernel_rfl) (by kernel_rfl) ?_
    refine qln (by kernel_rfl) ?_
    refine qln (by kernel_rfl) ?_
    refine qln (by kernel_rfl) ?_
    refine qln (by kernel_rfl) ?_
    refine qln (by kernel_rfl) ?_
    refine ql (.bool false) (by kernel_rfl) (by kernel_rfl) ?_
    refine ql (.bool false) (by kernel_rfl) (by kernel_rfl) ?_
    refine wpList_nil ?_
    refine x_then ?_
    refine wp_ret ?_
    refine ret_ (.bool false) (by kernel_rfl) ?_
    have ha := orM_o (r := r) (hR.none_ hx)
    exact ⟨rs, by rw [ha.2], HS, by rw [ha.1]; exact hR, rfl⟩
  · skip
    refine (mrow_s g cr R cols rs Ls o g1 c1 A1 ws1 _ (Mr.of HS (i := 0) (j := 1) (m := 2) rfl rfl rfl) hR hc hl hx).mono ?_
    rintro e W2 ⟨rfl, H_⟩
    refine ⟨_, rfl, ?_⟩
    replace HS : St W M W2 [blk g [.slice R rs.length cr, .int .i64 cols] 87, row R rs.length cr (cf cpt rs) 32 1, many (rsE 77 74 cols rs)] := HS.join (F := []) (G := []) H_
    clear H_
    refine ql (.pointer (some ⟨g1, 0, none⟩)) (by kernel_rfl) (by kernel_rfl) ?_
    refine wpList_nil ?_
    refine x_then ?_
    refine wp_seq ?_
    refine wp_region_lit ?_
    refine ql (.pointer (some ⟨g1, 0, none⟩)) (by kernel_rfl) (by kernel_rfl) ?_
    refine ql (.bool true) (by kernel_rfl) (by kernel_rfl) ?_
    refine ql (.bool true) (by kernel_rfl) (by kernel_rfl) ?_
    refine ql (.pointer (some ⟨g, 0, none⟩)) (by kernel_rfl) (by kernel_rfl) ?_
    refine ql (.int .i64 r) (by kernel_rfl) (by kernel_rfl) ?_
    refine qc (f := 57) (args := #[.pointer (some ⟨g, 0, none⟩), .int .i64 r]) (by kernel_rfl) (R_call #[.pointer (some ⟨g, 0, none⟩), .int .i64 r] Tryd.func57 (by kernel_rfl) (by kernel_rfl) (by kernel_rfl)) ?_
    by_cases hin : 0 ≤ r ∧ r < rs.length
    · skip
      refine (mown g cr R cols rs Ls r _ _ (St.focus (F := [blk g [.slice R rs.length cr, .int .i64 cols] 87, row R rs.length cr (cf cpt rs) 32 1, many (rsE 77 74 cols rs)]) HS) hR hc hl hin.1 hin.2).mono ?_
      rintro e W3 ⟨rs9, g2, c2, A2, ws2, rfl, H_, hR9, hg9, hl9, hk9⟩
      have hg9s := mget_some hg9
      have hS9 : Rep ws2 cols (rowL Ls r) := hR9.some_ hg9
      refine ⟨_, rfl, ?_⟩
      replace HS : St W M W3 [blk g [.slice R rs9.length cr, .int .i64 cols] 87, row R rs9.length cr (cf cpt rs9) 32 1, many (rsE 77 74 cols rs9)] := HS.join (F := [blk g [.slice R rs.length cr, .int .i64 cols] 87, row R rs.length cr (cf cpt rs) 32 1, many (rsE 77 74 cols rs)]) (G := [blk g [.slice R rs9.length cr, .int .i64 cols] 87, row R rs9.length cr (cf cpt rs9) 32 1, many (rsE 77 74 cols rs9)]) H_
      clear H_
      refine ql (.pointer (some ⟨g1, 0, none⟩)) (by kernel_rfl) (by kernel_rfl) ?_
      refine qc (f := 58) (args := #[.pointer (some ⟨g2, 0, none⟩), .pointer (some ⟨g1, 0, none⟩)]) (by kernel_rfl) (R_call #[.pointer (some ⟨g2, 0, none⟩), .pointer (some ⟨g1, 0, none⟩)] Tryd.func58 (by kernel_rfl) (by kernel_rfl) (by kernel_rfl)) ?_
      have hgo := hk9 o _ hx
      have hgos := mget_some hgo
      have hS1 : Rep ws1 cols (rowL Ls o) := hR9.some_ hgo
      by_cases hro : r = o
      · skip
        have hrc2 := hgo
        rw [← hro, hg9] at hrc2
        obtain ⟨rfl, rfl, rfl, rfl⟩ : g1 = g2 ∧ A1 = A2 ∧ c1 = c2 ∧ ws1 = ws2 := by simpa using hrc2.symm
        skip
        replace HS : St W M W3 [many (rsE 77 74 cols rs9), blk g [.slice R rs9.length cr, .int .i64 cols] 87, row R rs9.length cr (cf cpt rs9) 32 1] := HS.perm (perm_ [2, 0, 1] (by kernel_rfl) rfl)
        replace HS : St W M W3 [blk g1 [.slice A1 ws1.length c1, .int .i64 cols] 77, row A1 ws1.length c1 (ci .u64 ws1) 74 1, many (rsE 77 74 cols (rs9.eraseIdx r.toNat)), blk g [.slice R rs9.length cr, .int .i64 cols] 87, row R rs9.length cr (cf cpt rs9) 32 1] := HS.takeE (x := some (g1, A1, c1, ws1)) hg9s.2.2
        refine (dor_self g1 c1 A1 ws1 cols (rowL Ls r) _ _ (St.focus (F := [blk g1 [.slice A1 ws1.length c1, .int .i64 cols] 77, row A1 ws1.length c1 (ci .u64 ws1) 74 1]) HS) hS9 (by omega)).mono ?_
        rintro e W4 ⟨rfl, H_⟩
        refine ⟨_, rfl, ?_⟩
        replace HS : St W M W4 [blk g1 [.slice A1 ws1.length c1, .int .i64 cols] 77, row A1 ws1.length c1 (ci .u64 ws1) 74 1, many (rsE 77 74 cols (rs9.eraseIdx r.toNat)), blk g [.slice R rs9.length cr, .int .i64 cols] 87, row R rs9.length cr (cf cpt rs9) 32 1] := HS.join (F := [blk g1 [.slice A1 ws1.length c1, .int .i64 cols] 77, row A1 ws1.length c1 (ci .u64 ws1) 74 1]) (G := [blk g1 [.slice A1 ws1.length c1, .int .i64 cols] 77, row A1 ws1.length c1 (ci .u64 ws1) 74 1]) H_
        clear H_
        refine ql (.bool false) (by kernel_rfl) (by kernel_rfl) ?_
        refine ql (.bool false) (by kernel_rfl) (by kernel_rfl) ?_
        refine wpList_nil ?_
        refine x_then ?_
        refine wp_ret ?_
        refine ret_ (.bool false) (by kernel_rfl) ?_
        have ha := orM_in (Ls := Ls) (r := r) (o := o) hin.1 (by omega)
        replace HS : St W M W4 [many (rsE 77 74 cols rs9), blk g [.slice R rs9.length cr, .int .i64 cols] 87, row R rs9.length cr (cf cpt rs9) 32 1] := St.giveS (y := (some (g1, A1, c1, ws1))) hg9s.2.2 HS
        replace HS : St W M W4 [blk g [.slice R rs9.length cr, .int .i64 cols] 87, row R rs9.length cr (cf cpt rs9) 32 1, many (rsE 77 74 cols rs9)] := HS.perm (perm_ [1, 2, 0] (by kernel_rfl) rfl)
        exact ⟨rs9, by rw [ha.2, ← hro, newB_self], HS, by rw [ha.1, ← hro, uni_self, set_rowL hin.1 (by omega)]; exact hR9, hl9⟩
      · skip
        replace HS : St W M W3 [many (rsE 77 74 cols rs9), blk g [.slice R rs9.length cr, .int .i64 cols] 87, row R rs9.length cr (cf cpt rs9) 32 1] := HS.perm (perm_ [2, 0, 1] (by kernel_rfl) rfl)
        replace HS : St W M W3 [blk g2 [.slice A2 ws2.length c2, .int .i64 cols] 77, row A2 ws2.length c2 (ci .u64 ws2) 74 1, many (rsE 77 74 cols (rs9.eraseIdx r.toNat)), blk g [.slice R rs9.length cr, .int .i64 cols] 87, row R rs9.length cr (cf cpt rs9) 32 1] := HS.takeE (x := some (g2, A2, c2, ws2)) hg9s.2.2
        have hne : r.toNat ≠ o.toNat := by omega
        have heg := erase_get hne hgos.2.2
        replace HS : St W M W3 [many (rsE 77 74 cols (rs9.eraseIdx r.toNat)), blk g2 [.slice A2 ws2.length c2, .int .i64 cols] 77, row A2 ws2.length c2 (ci .u64 ws2) 74 1, blk g [.slice R rs9.length cr, .int .i64 cols] 87, row R rs9.length cr (cf cpt rs9) 32 1] := HS.perm (perm_ [2, 0, 1, 3, 4] (by kernel_rfl) rfl)
        replace HS : St W M W3 [blk g1 [.slice A1 ws1.length c1, .int .i64 cols] 77, row A1 ws1.length c1 (ci .u64 ws1) 74 1, many (rsE 77 74 cols ((rs9.eraseIdx r.toNat).eraseIdx (eix r.toNat o.toNat))), blk g2 [.slice A2 ws2.length c2, .int .i64 cols] 77, row A2 ws2.length c2 (ci .u64 ws2) 74 1, blk g [.slice R rs9.length cr, .int .i64 cols] 87, row R rs9.length cr (cf cpt rs9) 32 1] := HS.takeE (x := some (g1, A1, c1, ws1)) heg
        replace HS : St W M W3 [blk g2 [.slice A2 ws2.length c2, .int .i64 cols] 77, row A2 ws2.length c2 (ci .u64 ws2) 74 1, blk g1 [.slice A1 ws1.length c1, .int .i64 cols] 77, row A1 ws1.length c1 (ci .u64 ws1) 74 1, many (rsE 77 74 cols ((rs9.eraseIdx r.toNat).eraseIdx (eix r.toNat o.toNat))), blk g [.slice R rs9.length cr, .int .i64 cols] 87, row R rs9.length cr (cf cpt rs9) 32 1] := HS.perm (perm_ [3, 4, 0, 1, 2, 5, 6] (by kernel_rfl) rfl)
        refine (dor g2 c2 A2 ws2 cols g1 c1 A1 ws1 (rowL Ls r) (rowL Ls o) _ _ (St.focus (F := [blk g2 [.slice A2 ws2.length c2, .int .i64 cols] 77, row A2 ws2.length c2 (ci .u64 ws2) 74 1, blk g1 [.slice A1 ws1.length c1, .int .i64 cols] 77, row A1 ws1.length c1 (ci .u64 ws1) 74 1]) HS) hS9 hS1 (by omega)).mono ?_
        rintro e W5 ⟨ws3, rfl, H_, hR3⟩
        refine ⟨_, rfl, ?_⟩
        replace HS : St W M W5 [blk g2 [.slice A2 ws3.length c2, .int .i64 cols] 77, row A2 ws3.length c2 (ci .u64 ws3) 74 1, blk g1 [.slice A1 ws1.length c1, .int .i64 cols] 77, row A1 ws1.length c1 (ci .u64 ws1) 74 1, many (rsE 77 74 cols ((rs9.eraseIdx r.toNat).eraseIdx (eix r.toNat o.toNat))), blk g [.slice R rs9.length cr, .int .i64 cols] 87, row R rs9.length cr (cf cpt rs9) 32 1] := HS.join (F := [blk g2 [.slice A2 ws2.length c2, .int .i64 cols] 77, row A2 ws2.length c2 (ci .u64 ws2) 74 1, blk g1 [.slice A1 ws1.length c1, .int .i64 cols] 77, row A1 ws1.length c1 (ci .u64 ws1) 74 1]) (G := [blk g2 [.slice A2 ws3.length c2, .int .i64 cols] 77, row A2 ws3.length c2 (ci .u64 ws3) 74 1, blk g1 [.slice A1 ws1.length c1, .int .i64 cols] 77, row A1 ws1.length c1 (ci .u64 ws1) 74 1]) H_
        clear H_
        refine ql (.bool (newB (rowL Ls r) (rowL Ls o))) (by kernel_rfl) (by kernel_rfl) ?_
        refine ql (.bool (newB (rowL Ls r) (rowL Ls o))) (by kernel_rfl) (by kernel_rfl) ?_
        refine wpList_nil ?_
        refine x_then ?_
        refine wp_ret ?_
        refine ret_ (.bool (newB (rowL Ls r) (rowL Ls o))) (by kernel_rfl) ?_
        have ha := orM_in (Ls := Ls) (r := r) (o := o) hin.1 (by omega)
        replace HS : St W M W5 [blk g1 [.slice A1 ws1.length c1, .int .i64 cols] 77, row A1 ws1.length c1 (ci .u64 ws1) 74 1, many (rsE 77 74 cols ((rs9.eraseIdx r.toNat).eraseIdx (eix r.toNat o.toNat))), blk g2 [.slice A2 ws3.length c2, .int .i64 cols] 77, row A2 ws3.length c2 (ci .u64 ws3) 74 1, blk g [.slice R rs9.length cr, .int .i64 cols] 87, row R rs9.length cr (cf cpt rs9) 32 1] := HS.perm (perm_ [2, 3, 4, 0, 1, 5, 6] (by kernel_rfl) rfl)
        replace HS : St W M W5 [many (rsE 77 74 cols (rs9.eraseIdx r.toNat)), blk g2 [.slice A2 ws3.length c2, .int .i64 cols] 77, row A2 ws3.length c2 (ci .u64 ws3) 74 1, blk g [.slice R rs9.length cr, .int .i64 cols] 87, row R rs9.length cr (cf cpt rs9) 32 1] := St.giveS (y := some (g1, A1, c1, ws1)) heg HS
        replace HS : St W M W5 [blk g2 [.slice A2 ws3.length c2, .int .i64 cols] 77, row A2 ws3.length c2 (ci .u64 ws3) 74 1, many (rsE 77 74 cols (rs9.eraseIdx r.toNat)), blk g [.slice R rs9.length cr, .int .i64 cols] 87, row R rs9.length cr (cf cpt rs9) 32 1] := HS.perm (perm_ [1, 2, 0, 3, 4] (by kernel_rfl) rfl)
        replace HS : St W M W5 [many (rsE 77 74 cols (rs9.set r.toNat (some (g2, A2, c2, ws3)))), blk g [.slice R rs9.length cr, .int .i64 cols] 87, row R rs9.length cr (cf cpt rs9) 32 1] := St.giveE (y := (some (g2, A2, c2, ws3))) (by omega) HS
        replace HS : St W M W5 [blk g [.slice R rs9.length cr, .int .i64 cols] 87, row R rs9.length cr (cf cpt rs9) 32 1, many (rsE 77 74 cols (rs9.set r.toNat (some (g2, A2, c2, ws3))))] := HS.perm (perm_ [1, 2, 0] (by kernel_rfl) rfl)
        have hlq : rs9.length = (rs9.set r.toNat (some (g2, A2, c2, ws3))).length := by rw [List.length_set]
        rw [hlq] at HS
        have hcf : cf cpt rs9 = cf cpt (rs9.set r.toNat (some (g2, A2, c2, ws3))) := cpt_set hg9s.2.2
        rw [hcf] at HS
        exact ⟨_, by rw [ha.2], HS, by rw [ha.1]; exact hR9.set_ (y := (g2, A2, c2, ws3)) hR3, by rw [List.length_set]; exact hl9⟩
    · skip
      refine (mown_o g cr R cols rs Ls r _ _ (St.focus (F := [blk g [.slice R rs.length cr, .int .i64 cols] 87, row R rs.length cr (cf cpt rs) 32 1, many (rsE 77 74 cols rs)]) HS) hR hc hl (by omega)).mono ?_
      rintro e W6 ⟨rfl, H_⟩
      refine ⟨_, rfl, ?_⟩
      replace HS : St W M W6 [blk g [.slice R rs.length cr, .int .i64 cols] 87, row R rs.length cr (cf cpt rs) 32 1, many (rsE 77 74 cols rs)] := HS.join (F := [blk g [.slice R rs.length cr, .int .i64 cols] 87, row R rs.length cr (cf cpt rs) 32 1, many (rsE 77 74 cols rs)]) (G := [blk g [.slice R rs.length cr, .int .i64 cols] 87, row R rs.length cr (cf cpt rs) 32 1, many (rsE 77 74 cols rs)]) H_
      clear H_
      refine ql (.pointer (some ⟨g1, 0, none⟩)) (by kernel_rfl) (by kernel_rfl) ?_
      refine qc (f := 58) (args := #[.pointer none, .pointer (some ⟨g1, 0, none⟩)]) (by kernel_rfl) (R_call #[.pointer none, .pointer (some ⟨g1, 0, none⟩)] Tryd.func58 (by kernel_rfl) (by kernel_rfl) (by kernel_rfl)) ?_
      refine (dor_nil_l 0 g1 _).mono ?_
      rintro e W7 ⟨rfl, H_⟩
      refine ⟨_, rfl, ?_⟩
      replace HS : St W M W7 [blk g [.slice R rs.length cr, .int .i64 cols] 87, row R rs.length cr (cf cpt rs) 32 1, many (rsE 77 74 cols rs)] := HS.join (F := []) (G := []) H_
      clear H_
      refine ql (.bool false) (by kernel_rfl) (by kernel_rfl) ?_
      refine ql (.bool false) (by kernel_rfl) (by kernel_rfl) ?_
      refine wpList_nil ?_
      refine x_then ?_
      refine wp_ret ?_
      refine ret_ (.bool false) (by kernel_rfl) ?_
      have ha := orM_r (Ls := Ls) (r := r) (o := o) (by omega)
      exact ⟨rs, by rw [ha.2], HS, by rw [ha.1]; exact hR, rfl⟩

set_option maxRecDepth 100000 in
set_option maxHeartbeats 1000000 in
theorem mclose (g cr : Nat) (R : Option Addr) (cols : Int) (rs : List Rw) (Ls : List (List Int)) (W : World) (M : Nat → Prop) (HS : St W M W [blk g [.slice R rs.length cr, .int .i64 cols] 87, row R rs.length cr (cf cpt rs) 32 1, many (rsE 77 74 cols rs)]) (hR : MRep rs cols Ls) (hc : cols ≤ 65536) (hl : rs.length ≤ 65536) (hsq : (rs.length : Int) = cols) : Calls Tryd.prog 37 #[.pointer (some ⟨g, 0, none⟩)] W fun e W' => ∃ rs', e = .returned (.int .i64 ((cntL (clo Ls) : Int) - (cntL Ls : Int))) ∧ St W M W' [blk g [.slice R rs'.length cr, .int .i64 cols] 87, row R rs'.length cr (cf cpt rs') 32 1, many (rsE 77 74 cols rs')] ∧ MRep rs' cols (clo Ls) ∧ rs'.length = rs.length := by
  have h0c := hR.c0
  have hlen := hR.len
  obtain ⟨N, hN⟩ : ∃ z_ : Nat, z_ = rs.length := ⟨_, rfl⟩
  have hsq9 := hsq
  refine calls_enter [.pointer (some ⟨g, 0, none⟩), undef, undef, undef, undef, undef, undef, undef, undef, undef, undef, undef, undef, undef, undef, undef, undef, undef, undef, undef, undef, undef, undef, undef, undef, undef, undef, undef, undef, undef, undef, undef, undef, undef, undef, undef, undef] Tryd.func37 rfl (by kernel_rfl) ?_
  refine wp_seq ?_
  refine wp_region_lit ?_
  refine ql (.int .i64 0) (by kernel_rfl) (by kernel_rfl) ?_
  refine wpList_nil ?_
  refine x_then ?_
  refine wp_seq ?_
  refine wp_seq ?_
  refine wp_region_lit ?_
  refine ql (.pointer (some ⟨g, 0, none⟩)) (by kernel_rfl) (by kernel_rfl) ?_
  refine qc (f := 26) (args := #[.pointer (some ⟨g, 0, none⟩)]) (by kernel_rfl) (R_call #[.pointer (some ⟨g, 0, none⟩)] Tryd.func26 (by kernel_rfl) (by kernel_rfl) (by kernel_rfl)) ?_
  refine (mrows g cr R cols rs Ls _ (Mr.of HS (i := 0) (j := 1) (m := 2) rfl rfl rfl) hR hc (by omega)).mono ?_
  rintro e W1 ⟨rfl, H_⟩
  refine ⟨_, rfl, ?_⟩
  replace HS : St W M W1 [blk g [.slice R rs.length cr, .int .i64 cols] 87, row R rs.length cr (cf cpt rs) 32 1, many (rsE 77 74 cols rs)] := HS.join (F := []) (G := []) H_
  clear H_
  refine ql (.pointer (some ⟨g, 0, none⟩)) (by kernel_rfl) (by kernel_rfl) ?_
  refine qc (f := 27) (args := #[.pointer (some ⟨g, 0, none⟩)]) (by kernel_rfl) (R_call #[.pointer (some ⟨g, 0, none⟩)] Tryd.func27 (by kernel_rfl) (by kernel_rfl) (by kernel_rfl)) ?_
  refine (mcols g cr R cols rs Ls _ (Mr.of HS (i := 0) (j := 1) (m := 2) rfl rfl rfl) hR hc hl).mono ?_
  rintro e W2 ⟨rfl, H_⟩
  refine ⟨_, rfl, ?_⟩
  replace HS : St W M W2 [blk g [.slice R rs.length cr, .int .i64 cols] 87, row R rs.length cr (cf cpt rs) 32 1, many (rsE 77 74 cols rs)] := HS.join (F := []) (G := []) H_
  clear H_
  refine ql (.bool false) (by kernel_rfl) (R_beq (b := ((rs.length : Int) != cols)) (by kernel_rfl) (bne_f (by omega))) ?_
  refine wpList_nil ?_
  refine x_then ?_
  refine wp_cond_false (by kernel_rfl) ?_
  refine wp_skip ?_
  refine x_then ?_
  refine wp_seq ?_
  refine wp_region_lit ?_
  refine ql (.pointer (some ⟨g, 0, none⟩)) (by kernel_rfl) (by kernel_rfl) ?_
  refine qc (f := 30) (args := #[.pointer (some ⟨g, 0, none⟩)]) (by kernel_rfl) (R_call #[.pointer (some ⟨g, 0, none⟩)] Tryd.func30 (by kernel_rfl) (by kernel_rfl) (by kernel_rfl)) ?_
  have hcn2 := hR.cnt_le hc
  have hcm2 := hR.len
  refine (mcount g cr R cols rs Ls _ (Mr.of HS (i := 0) (j := 1) (m := 2) rfl rfl rfl) hR hc (by omega)).mono ?_
  rintro e W3 ⟨rfl, H_⟩
  refine ⟨_, rfl, ?_⟩
  replace HS : St W M W3 [blk g [.slice R rs.length cr, .int .i64 cols] 87, row R rs.length cr (cf cpt rs) 32 1, many (rsE 77 74 cols rs)] := HS.join (F := []) (G := []) H_
  clear H_
  refine ql (.int .i64 (cntL Ls : Int)) (by kernel_rfl) (by kernel_rfl) ?_
  refine wpList_nil ?_
  refine x_then ?_
  refine wp_seq ?_
  refine wp_seq ?_
  refine wp_region_lit ?_
  refine ql (.pointer (some ⟨g, 0, none⟩)) (by kernel_rfl) (by kernel_rfl) ?_
  refine qc (f := 26) (args := #[.pointer (some ⟨g, 0, none⟩)]) (by kernel_rfl) (R_call #[.pointer (some ⟨g, 0, none⟩)] Tryd.func26 (by kernel_rfl) (by kernel_rfl) (by kernel_rfl)) ?_
  refine (mrows g cr R cols rs Ls _ (Mr.of HS (i := 0) (j := 1) (m := 2) rfl rfl rfl) hR hc (by omega)).mono ?_
  rintro e W4 ⟨rfl, H_⟩
  refine ⟨_, rfl, ?_⟩
  replace HS : St W M W4 [blk g [.slice R rs.length cr, .int .i64 cols] 87, row R rs.length cr (cf cpt rs) 32 1, many (rsE 77 74 cols rs)] := HS.join (F := []) (G := []) H_
  clear H_
  refine ql (.int .i64 0) (by kernel_rfl) (by kernel_rfl) ?_
  refine wpList_nil ?_
  refine x_then ?_
  refine wp_block ?_
  refine wp_loop_ghost (fun kq a' w' => ∃ (J5 : Nat → Value) (k : Int) (rk : List Rw) (Lk : List (List Int)) , a' = Fr [.pointer (some ⟨g, 0, none⟩), undef, .int .i64 0, .int .i64 (cntL Ls : Int), (J5 4), (J5 5), .pointer (some ⟨g, 0, none⟩), .int .i64 (rs.length : Int), .pointer (some ⟨g, 0, none⟩), .int .i64 cols, .bool false, .pointer (some ⟨g, 0, none⟩), .int .i64 (cntL Ls : Int), .pointer (some ⟨g, 0, none⟩), .int .i64 (rs.length : Int), .int .i64 k, (J5 16), (J5 17), (J5 18), (J5 19), (J5 20), (J5 21), (J5 22), (J5 23), (J5 24), (J5 25), (J5 26), (J5 27), (J5 28), (J5 29), (J5 30), (J5 31), (J5 32), undef, undef, undef, undef] ∧ kq = (N - (k).toNat) ∧ (0 ≤ k) ∧ (k ≤ N) ∧ (MRep rk cols Lk) ∧ (rk.length = N) ∧ (Lk = outr Ls.length (k).toNat Ls) ∧ St W M w' [blk g [.slice R rk.length cr, .int .i64 cols] 87, row R rk.length cr (cf cpt rk) 32 1, many (rsE 77 74 cols rk)]) (N - ((0 : Int)).toNat) ⟨(fun k_ : Nat => List.getD [.pointer (some ⟨g, 0, none⟩), undef, .int .i64 0, .int .i64 (cntL Ls : Int), undef, undef, .pointer (some ⟨g, 0, none⟩), .int .i64 (rs.length : Int), .pointer (some ⟨g, 0, none⟩), .int .i64 cols, .bool false, .pointer (some ⟨g, 0, none⟩), .int .i64 (cntL Ls : Int), .pointer (some ⟨g, 0, none⟩), .int .i64 (rs.length : Int), .int .i64 0, undef, undef, undef, undef, undef, undef, undef, undef, undef, undef, undef, undef, undef, undef, undef, undef, undef, undef, undef, undef, undef] k_ undef), (0 : Int), rs, Ls, congrArg Fr (by kernel_rfl), rfl, by omega, by omega, hR, hN.symm, rfl, HS⟩ ?_
  clear HS
  intro kq6 a' W7 hrel
  obtain ⟨J5, k, rk, Lk, rfl, hk, k0, k1, hRk, hlk, hk_, HS⟩ := hrel
  refine wp_seq ?_
  refine wp_region_lit ?_
  by_cases hc8 : k < (rs.length : Int)
  · skip
    refine ql (.bool true) (by kernel_rfl) (R_bool (p := k < (rs.length : Int)) (by kernel_rfl) (hc8)) ?_
    refine wpList_nil ?_
    refine x_then ?_
    refine wp_seq ?_
    refine wp_cond_true (by kernel_rfl) ?_
    refine wp_skip ?_
    refine x_then ?_
    refine wp_seq ?_
    refine wp_block ?_
    refine wp_seq ?_
    refine wp_region_lit ?_
    refine ql (.int .i64 k) (by kernel_rfl) (by kernel_rfl) ?_
    refine ql (.int .i64 k) (by kernel_rfl) (by kernel_rfl) ?_
    refine wpList_nil ?_
    refine x_then ?_
    refine wp_seq ?_
    refine wp_region_lit ?_
    refine ql (.pointer (some ⟨g, 0, none⟩)) (by kernel_rfl) (by kernel_rfl) ?_
    refine qc (f := 26) (args := #[.pointer (some ⟨g, 0, none⟩)]) (by kernel_rfl) (R_call #[.pointer (some ⟨g, 0, none⟩)] Tryd.func26 (by kernel_rfl) (by kernel_rfl) (by kernel_rfl)) ?_
    refine (mrows g cr R cols rk Lk _ (Mr.of HS (i := 0) (j := 1) (m := 2) rfl rfl rfl) hRk hc (by omega)).mono ?_
    rintro e W9 ⟨rfl, H_⟩
    refine ⟨_, rfl, ?_⟩
    replace HS : St W M W9 [blk g [.slice R rk.length cr, .int .i64 cols] 87, row R rk.length cr (cf cpt rk) 32 1, many (rsE 77 74 cols rk)] := HS.join (F := []) (G := []) H_
    clear H_
    refine ql (.int .i64 0) (by kernel_rfl) (by kernel_rfl) ?_
    refine wpList_nil ?_
    refine x_then ?_
    refine wp_block ?_
    refine wp_loop_ghost (fun kq a' w' => ∃ (J10 : Nat → Value) (r : Int) (rr : List Rw) (Lr : List (List Int)) , a' = Fr [.pointer (some ⟨g, 0, none⟩), undef, .int .i64 0, .int .i64 (cntL Ls : Int), .int .i64 k, (J10 5), .pointer (some ⟨g, 0, none⟩), .int .i64 (rs.length : Int), .pointer (some ⟨g, 0, none⟩), .int .i64 cols, .bool false, .pointer (some ⟨g, 0, none⟩), .int .i64 (cntL Ls : Int), .pointer (some ⟨g, 0, none⟩), .int .i64 (rs.length : Int), .int .i64 k, .bool true, .int .i64 k, .pointer (some ⟨g, 0, none⟩), .int .i64 (rk.length : Int), .int .i64 r, (J10 21), (J10 22), (J10 23), (J10 24), (J10 25), (J10 26), (J10 27), (J10 28), (J10 29), (J10 30), (J10 31), (J5 32), undef, undef, undef, undef] ∧ kq = (N - (r).toNat) ∧ (0 ≤ r) ∧ (r ≤ N) ∧ (MRep rr cols Lr) ∧ (rr.length = N) ∧ (Lr = inn k (r).toNat Lk) ∧ St W M w' [blk g [.slice R rr.length cr, .int .i64 cols] 87, row R rr.length cr (cf cpt rr) 32 1, many (rsE 77 74 cols rr)]) (N - ((0 : Int)).toNat) ⟨(fun k_ : Nat => List.getD [.pointer (some ⟨g, 0, none⟩), undef, .int .i64 0, .int .i64 (cntL Ls : Int), .int .i64 k, (J5 5), .pointer (some ⟨g, 0, none⟩), .int .i64 (rs.length : Int), .pointer (some ⟨g, 0, none⟩), .int .i64 cols, .bool false, .pointer (some ⟨g, 0, none⟩), .int .i64 (cntL Ls : Int), .pointer (some ⟨g, 0, none⟩), .int .i64 (rs.length : Int), .int .i64 k, .bool true, .int .i64 k, .pointer (some ⟨g, 0, none⟩), .int .i64 (rk.length : Int), .int .i64 0, (J5 21), (J5 22), (J5 23), (J5 24), (J5 25), (J5 26), (J5 27), (J5 28), (J5 29), (J5 30), (J5 31), (J5 32), undef, undef, undef, undef] k_ undef), (0 : Int), rk, Lk, congrArg Fr (by kernel_rfl), rfl, by omega, by omega, hRk, hlk, rfl, HS⟩ ?_
    clear HS
    intro kq11 a' W12 hrel
    obtain ⟨J10, r, rr, Lr, rfl, hk, r0, r1, hRr, hlr, hr_, HS⟩ := hrel
    refine wp_seq ?_
    refine wp_region_lit ?_
    by_cases hc13 : r < (rk.length : Int)
    · skip
      refine ql (.bool true) (by kernel_rfl) (R_bool (p := r < (rk.length : Int)) (by kernel_rfl) (hc13)) ?_
      refine wpList_nil ?_
      refine x_then ?_
      refine wp_seq ?_
      refine wp_cond_true (by kernel_rfl) ?_
      refine wp_skip ?_
      refine x_then ?_
      refine wp_seq ?_
      refine wp_block ?_
      refine wp_seq ?_
      refine wp_region_lit ?_
      refine ql (.int .i64 r) (by kernel_rfl) (by kernel_rfl) ?_
      refine ql (.int .i64 r) (by kernel_rfl) (by kernel_rfl) ?_
      refine wpList_nil ?_
      refine x_then ?_
      refine wp_seq ?_
      refine wp_region_lit ?_
      refine ql (.pointer (some ⟨g, 0, none⟩)) (by kernel_rfl) (by kernel_rfl) ?_
      refine ql (.int .i64 r) (by kernel_rfl) (by kernel_rfl) ?_
      refine ql (.int .i64 k) (by kernel_rfl) (by kernel_rfl) ?_
      refine qc (f := 28) (args := #[.pointer (some ⟨g, 0, none⟩), .int .i64 r, .int .i64 k]) (by kernel_rfl) (R_call #[.pointer (some ⟨g, 0, none⟩), .int .i64 r, .int .i64 k] Tryd.func28 (by kernel_rfl) (by kernel_rfl) (by kernel_rfl)) ?_
      by_cases hv : k ∈ rowL Lr r
      · skip
        have hdx : decide (k ∈ rowL Lr r) = true := decide_eq_true hv
        refine (mhas g cr R cols rr Lr r k _ (Mr.of HS (i := 0) (j := 1) (m := 2) rfl rfl rfl) hRr hc (by omega)).mono ?_
        rintro e W14 ⟨rfl, H_⟩
        rw [hdx]
        refine ⟨_, rfl, ?_⟩
        replace HS : St W M W14 [blk g [.slice R rr.length cr, .int .i64 cols] 87, row R rr.length cr (cf cpt rr) 32 1, many (rsE 77 74 cols rr)] := HS.join (F := []) (G := []) H_
        clear H_
        refine wpList_nil ?_
        refine x_then ?_
        refine wp_cond_true (by kernel_rfl) ?_
        refine wp_region_lit ?_
        refine ql (.pointer (some ⟨g, 0, none⟩)) (by kernel_rfl) (by kernel_rfl) ?_
        refine ql (.int .i64 r) (by kernel_rfl) (by kernel_rfl) ?_
        refine ql (.int .i64 k) (by kernel_rfl) (by kernel_rfl) ?_
        refine qc (f := 38) (args := #[.pointer (some ⟨g, 0, none⟩), .int .i64 r, .int .i64 k]) (by kernel_rfl) (R_call #[.pointer (some ⟨g, 0, none⟩), .int .i64 r, .int .i64 k] Tryd.func38 (by kernel_rfl) (by kernel_rfl) (by kernel_rfl)) ?_
        refine (mor g cr R cols rr Lr r k _ _ (St.focus (F := [blk g [.slice R rr.length cr, .int .i64 cols] 87, row R rr.length cr (cf cpt rr) 32 1, many (rsE 77 74 cols rr)]) HS) hRr hc (by omega)).mono ?_
        rintro e W15 ⟨ro, rfl, H_, hRo, hlo⟩
        refine ⟨_, rfl, ?_⟩
        replace HS : St W M W15 [blk g [.slice R ro.length cr, .int .i64 cols] 87, row R ro.length cr (cf cpt ro) 32 1, many (rsE 77 74 cols ro)] := HS.join (F := [blk g [.slice R rr.length cr, .int .i64 cols] 87, row R rr.length cr (cf cpt rr) 32 1, many (rsE 77 74 cols rr)]) (G := [blk g [.slice R ro.length cr, .int .i64 cols] 87, row R ro.length cr (cf cpt ro) 32 1, many (rsE 77 74 cols ro)]) H_
        clear H_
        refine wpList_nil ?_
        refine x_inb ?_
        refine x_then ?_
        refine wp_region_lit ?_
        refine ql (.int .i64 (r + 1)) (by kernel_rfl) (R_int (by kernel_rfl) (w64 (by omega))) ?_
        refine ql (.int .i64 (r + 1)) (by kernel_rfl) (by kernel_rfl) ?_
        refine wpList_nil ?_
        refine x_then ?_
        exact ⟨N - (r + 1).toNat, by omega, (fun k_ : Nat => List.getD [.pointer (some ⟨g, 0, none⟩), undef, .int .i64 0, .int .i64 (cntL Ls : Int), .int .i64 k, .int .i64 r, .pointer (some ⟨g, 0, none⟩), .int .i64 (rs.length : Int), .pointer (some ⟨g, 0, none⟩), .int .i64 cols, .bool false, .pointer (some ⟨g, 0, none⟩), .int .i64 (cntL Ls : Int), .pointer (some ⟨g, 0, none⟩), .int .i64 (rs.length : Int), .int .i64 k, .bool true, .int .i64 k, .pointer (some ⟨g, 0, none⟩), .int .i64 (rk.length : Int), .int .i64 (r + 1), .bool true, .int .i64 r, .pointer (some ⟨g, 0, none⟩), .int .i64 r, .int .i64 k, .bool true, .pointer (some ⟨g, 0, none⟩), .int .i64 r, .int .i64 k, .bool (orMB Lr r k), .int .i64 (r + 1), (J5 32), undef, undef, undef, undef] k_ undef), r + 1, ro, (orM Lr r k), congrArg Fr (by kernel_rfl), rfl, by omega, by omega, hRo, by omega, (by have h_ := inn_step hr_ r0; rw [stpR, if_pos hv] at h_; exact h_), HS⟩
      · skip
        have hdx : decide (k ∈ rowL Lr r) = false := decide_eq_false hv
        refine (mhas g cr R cols rr Lr r k _ (Mr.of HS (i := 0) (j := 1) (m := 2) rfl rfl rfl) hRr hc (by omega)).mono ?_
        rintro e W16 ⟨rfl, H_⟩
        rw [hdx]
        refine ⟨_, rfl, ?_⟩
        replace HS : St W M W16 [blk g [.slice R rr.length cr, .int .i64 cols] 87, row R rr.length cr (cf cpt rr) 32 1, many (rsE 77 74 cols rr)] := HS.join (F := []) (G := []) H_
        clear H_
        refine wpList_nil ?_
        refine x_then ?_
        refine wp_cond_false (by kernel_rfl) ?_
        refine wp_skip ?_
        refine x_inb ?_
        refine x_then ?_
        refine wp_region_lit ?_
        refine ql (.int .i64 (r + 1)) (by kernel_rfl) (R_int (by kernel_rfl) (w64 (by omega))) ?_
        refine ql (.int .i64 (r + 1)) (by kernel_rfl) (by kernel_rfl) ?_
        refine wpList_nil ?_
        refine x_then ?_
        exact ⟨N - (r + 1).toNat, by omega, (fun k_ : Nat => List.getD [.pointer (some ⟨g, 0, none⟩), undef, .int .i64 0, .int .i64 (cntL Ls : Int), .int .i64 k, .int .i64 r, .pointer (some ⟨g, 0, none⟩), .int .i64 (rs.length : Int), .pointer (some ⟨g, 0, none⟩), .int .i64 cols, .bool false, .pointer (some ⟨g, 0, none⟩), .int .i64 (cntL Ls : Int), .pointer (some ⟨g, 0, none⟩), .int .i64 (rs.length : Int), .int .i64 k, .bool true, .int .i64 k, .pointer (some ⟨g, 0, none⟩), .int .i64 (rk.length : Int), .int .i64 (r + 1), .bool true, .int .i64 r, .pointer (some ⟨g, 0, none⟩), .int .i64 r, .int .i64 k, .bool false, (J10 27), (J10 28), (J10 29), (J10 30), .int .i64 (r + 1), (J5 32), undef, undef, undef, undef] k_ undef), r + 1, rr, Lr, congrArg Fr (by kernel_rfl), rfl, by omega, by omega, hRr, by omega, (by have h_ := inn_step hr_ r0; rw [stpR, if_neg hv] at h_; exact h_), HS⟩
    · skip
      refine ql (.bool false) (by kernel_rfl) (R_nbool (p := r < (rk.length : Int)) (by kernel_rfl) (hc13)) ?_
      refine wpList_nil ?_
      refine x_then ?_
      refine wp_seq ?_
      refine wp_cond_false (by kernel_rfl) ?_
      refine wp_exit ?_
      refine x_thenE ?_
      refine x_thenE ?_
      refine x_hit ?_
      refine x_inb ?_
      refine x_then ?_
      refine wp_region_lit ?_
      refine ql (.int .i64 (k + 1)) (by kernel_rfl) (R_int (by kernel_rfl) (w64 (by omega))) ?_
      refine ql (.int .i64 (k + 1)) (by kernel_rfl) (by kernel_rfl) ?_
      refine wpList_nil ?_
      refine x_then ?_
      exact ⟨N - (k + 1).toNat, by omega, (fun k_ : Nat => List.getD [.pointer (some ⟨g, 0, none⟩), undef, .int .i64 0, .int .i64 (cntL Ls : Int), .int .i64 k, (J10 5), .pointer (some ⟨g, 0, none⟩), .int .i64 (rs.length : Int), .pointer (some ⟨g, 0, none⟩), .int .i64 cols, .bool false, .pointer (some ⟨g, 0, none⟩), .int .i64 (cntL Ls : Int), .pointer (some ⟨g, 0, none⟩), .int .i64 (rs.length : Int), .int .i64 (k + 1), .bool true, .int .i64 k, .pointer (some ⟨g, 0, none⟩), .int .i64 (rk.length : Int), .int .i64 r, .bool false, (J10 22), (J10 23), (J10 24), (J10 25), (J10 26), (J10 27), (J10 28), (J10 29), (J10 30), (J10 31), .int .i64 (k + 1), undef, undef, undef, undef] k_ undef), k + 1, rr, Lr, congrArg Fr (by kernel_rfl), rfl, by omega, by omega, hRr, by omega, (outr_step hk_ k0 (by rw [hr_, show r.toNat = Ls.length by omega])), HS⟩
  · skip
    refine ql (.bool false) (by kernel_rfl) (R_nbool (p := k < (rs.length : Int)) (by kernel_rfl) (hc8)) ?_
    refine wpList_nil ?_
    refine x_then ?_
    refine wp_seq ?_
    refine wp_cond_false (by kernel_rfl) ?_
    refine wp_exit ?_
    refine x_thenE ?_
    refine x_thenE ?_
    refine x_hit ?_
    refine x_then ?_
    refine wp_seq ?_
    refine wp_region_lit ?_
    refine ql (.pointer (some ⟨g, 0, none⟩)) (by kernel_rfl) (by kernel_rfl) ?_
    refine qc (f := 30) (args := #[.pointer (some ⟨g, 0, none⟩)]) (by kernel_rfl) (R_call #[.pointer (some ⟨g, 0, none⟩)] Tryd.func30 (by kernel_rfl) (by kernel_rfl) (by kernel_rfl)) ?_
    have hcn16 := hRk.cnt_le hc
    have hcm16 := hRk.len
    refine (mcount g cr R cols rk Lk _ (Mr.of HS (i := 0) (j := 1) (m := 2) rfl rfl rfl) hRk hc (by omega)).mono ?_
    rintro e W17 ⟨rfl, H_⟩
    refine ⟨_, rfl, ?_⟩
    replace HS : St W M W17 [blk g [.slice R rk.length cr, .int .i64 cols] 87, row R rk.length cr (cf cpt rk) 32 1, many (rsE 77 74 cols rk)] := HS.join (F := []) (G := []) H_
    clear H_
    refine ql (.int .i64 (cntL Ls : Int)) (by kernel_rfl) (by kernel_rfl) ?_
    refine ql (.int .i64 ((cntL Lk : Int) - (cntL Ls : Int))) (by kernel_rfl) (R_int (by kernel_rfl) (w64 (by omega))) ?_
    refine ql (.int .i64 ((cntL Lk : Int) - (cntL Ls : Int))) (by kernel_rfl) (by kernel_rfl) ?_
    refine wpList_nil ?_
    refine x_then ?_
    refine wp_ret ?_
    refine ret_ (.int .i64 ((cntL Lk : Int) - (cntL Ls : Int))) (by kernel_rfl) ?_
    have hk9 : k.toNat = Ls.length := by omega
    rw [hk9] at hk_
    exact ⟨rk, by rw [show clo Ls = Lk from hk_.symm], HS, by rw [show clo Ls = Lk from hk_.symm]; exact hRk, by omega⟩

set_option maxRecDepth 100000 in
set_option maxHeartbeats 1000000 in
theorem mclose_ne (g cr : Nat) (R : Option Addr) (cols : Int) (rs : List Rw) (Ls : List (List Int)) (W : World) (M : Nat → Prop) (HS : St W M W [blk g [.slice R rs.length cr, .int .i64 cols] 87, row R rs.length cr (cf cpt rs) 32 1, many (rsE 77 74 cols rs)]) (hR : MRep rs cols Ls) (hc : cols ≤ 65536) (hl : rs.length ≤ 65536) (hsq : (rs.length : Int) ≠ cols) : Calls Tryd.prog 37 #[.pointer (some ⟨g, 0, none⟩)] W fun e W' => e = .returned (.int .i64 0) ∧ St W M W' [blk g [.slice R rs.length cr, .int .i64 cols] 87, row R rs.length cr (cf cpt rs) 32 1, many (rsE 77 74 cols rs)] := by
  have h0c := hR.c0
  refine calls_enter [.pointer (some ⟨g, 0, none⟩), undef, undef, undef, undef, undef, undef, undef, undef, undef, undef, undef, undef, undef, undef, undef, undef, undef, undef, undef, undef, undef, undef, undef, undef, undef, undef, undef, undef, undef, undef, undef, undef, undef, undef, undef, undef] Tryd.func37 rfl (by kernel_rfl) ?_
  refine wp_seq ?_
  refine wp_region_lit ?_
  refine ql (.int .i64 0) (by kernel_rfl) (by kernel_rfl) ?_
  refine wpList_nil ?_
  refine x_then ?_
  refine wp_seq ?_
  refine wp_seq ?_
  refine wp_region_lit ?_
  refine ql (.pointer (some ⟨g, 0, none⟩)) (by kernel_rfl) (by kernel_rfl) ?_
  refine qc (f := 26) (args := #[.pointer (some ⟨g, 0, none⟩)]) (by kernel_rfl) (R_call #[.pointer (some ⟨g, 0, none⟩)] Tryd.func26 (by kernel_rfl) (by kernel_rfl) (by kernel_rfl)) ?_
  refine (mrows g cr R cols rs Ls _ (Mr.of HS (i := 0) (j := 1) (m := 2) rfl rfl rfl) hR hc hl).mono ?_
  rintro e W1 ⟨rfl, H_⟩
  refine ⟨_, rfl, ?_⟩
  replace HS : St W M W1 [blk g [.slice R rs.length cr, .int .i64 cols] 87, row R rs.length cr (cf cpt rs) 32 1, many (rsE 77 74 cols rs)] := HS.join (F := []) (G := []) H_
  clear H_
  refine ql (.pointer (some ⟨g, 0, none⟩)) (by kernel_rfl) (by kernel_rfl) ?_
  refine qc (f := 27) (args := #[.pointer (some ⟨g, 0, none⟩)]) (by kernel_rfl) (R_call #[.pointer (some ⟨g, 0, none⟩)] Tryd.func27 (by kernel_rfl) (by kernel_rfl) (by kernel_rfl)) ?_
  refine (mcols g cr R cols rs Ls _ (Mr.of HS (i := 0) (j := 1) (m := 2) rfl rfl rfl) hR hc hl).mono ?_
  rintro e W2 ⟨rfl, H_⟩
  refine ⟨_, rfl, ?_⟩
  replace HS : St W M W2 [blk g [.slice R rs.length cr, .int .i64 cols] 87, row R rs.length cr (cf cpt rs) 32 1, many (rsE 77 74 cols rs)] := HS.join (F := []) (G := []) H_
  clear H_
  refine ql (.bool true) (by kernel_rfl) (R_beq (b := ((rs.length : Int) != cols)) (by kernel_rfl) (bne_t (by omega))) ?_
  refine wpList_nil ?_
  refine x_then ?_
  refine wp_cond_true (by kernel_rfl) ?_
  refine wp_seq ?_
  refine wp_region_lit ?_
  refine ql (.int .i64 0) (by kernel_rfl) (by kernel_rfl) ?_
  refine wpList_nil ?_
  refine x_then ?_
  refine wp_ret ?_
  refine x_thenR ?_
  refine ret_ (.int .i64 0) (by kernel_rfl) ?_
  exact ⟨rfl, HS⟩


set_option maxRecDepth 100000 in
set_option maxHeartbeats 1000000 in
theorem mawake (W : World) : Calls Tryd.prog 23 #[] W fun e W' => e = .returned (.bool true) ∧ St W (owns []) W' [] := by
  have HS : St W (owns []) W [] := St.start W _
  refine calls_enter [undef, undef, undef, undef, undef, undef, undef, undef, undef, undef, undef, undef, undef, undef, undef, undef, undef, undef, undef, undef, undef, undef, undef, undef, undef, undef, undef, undef, undef, undef, undef, undef, undef, undef, undef] Tryd.func23 rfl (by kernel_rfl) ?_
  refine wp_seq ?_
  refine wp_region_lit ?_
  refine ql (.bool false) (by kernel_rfl) (by kernel_rfl) ?_
  refine wpList_nil ?_
  refine x_then ?_
  refine wp_seq ?_
  refine wp_region_lit ?_
  refine qc (f := 24) (args := #[.int .i64 3, .int .i64 3]) (by kernel_rfl) (R_call #[.int .i64 3, .int .i64 3] Tryd.func24 (by kernel_rfl) (by kernel_rfl) (by kernel_rfl)) ?_
  refine (mnew_ok 3 3 _ (by omega) (by omega) (by omega) (by omega)).mono ?_
  rintro e W6 ⟨g1, a2, cr3, rs4, rfl, H_, hqrs4⟩
  have hR5 : MRep rs4 3 (List.replicate (3 : Int).toNat ([] : List Int)) := by rw [hqrs4]; exact MRep.zero (by omega)
  have hlrs4 : rs4.length = (3 : Int).toNat := by rw [hqrs4, List.length_replicate]
  refine ⟨_, rfl, ?_⟩
  replace HS : St W (owns []) W6 [blk g1 [.slice (some ⟨a2, 0, none⟩) rs4.length cr3, .int .i64 3] 87, row (some ⟨a2, 0, none⟩) rs4.length cr3 (cf cpt rs4) 32 1, many (rsE 77 74 3 rs4)] := HS.join (F := []) (G := [blk g1 [.slice (some ⟨a2, 0, none⟩) rs4.length cr3, .int .i64 3] 87, row (some ⟨a2, 0, none⟩) rs4.length cr3 (cf cpt rs4) 32 1, many (rsE 77 74 3 rs4)]) H_
  clear H_
  replace hR5 : MRep rs4 3 [[], [], []] := hR5
  replace hlrs4 : rs4.length = 3 := hlrs4
  refine ql (.tuple #[.pointer (some ⟨g1, 0, none⟩), .int .i64 0]) (by kernel_rfl) (by kernel_rfl) ?_
  refine ql (.pointer (some ⟨g1, 0, none⟩)) (by kernel_rfl) (by kernel_rfl) ?_
  refine ql (.int .i64 0) (by kernel_rfl) (by kernel_rfl) ?_
  refine ql (.pointer (some ⟨g1, 0, none⟩)) (by kernel_rfl) (by kernel_rfl) ?_
  refine ql (.int .i64 0) (by kernel_rfl) (by kernel_rfl) ?_
  refine wpList_nil ?_
  refine x_then ?_
  refine wp_seq ?_
  refine wp_region_lit ?_
  refine ql (.pointer (some ⟨g1, 0, none⟩)) (by kernel_rfl) (by kernel_rfl) ?_
  refine qc (f := 36) (args := #[.pointer (some ⟨g1, 0, none⟩), .int .i64 0, .int .i64 1]) (by kernel_rfl) (R_call #[.pointer (some ⟨g1, 0, none⟩), .int .i64 0, .int .i64 1] Tryd.func36 (by kernel_rfl) (by kernel_rfl) (by kernel_rfl)) ?_
  refine (madd g1 cr3 (some ⟨a2, 0, none⟩) 3 rs4 ([[], [], []]) 0 1 _ _ (St.focus (F := [blk g1 [.slice (some ⟨a2, 0, none⟩) rs4.length cr3, .int .i64 3] 87, row (some ⟨a2, 0, none⟩) rs4.length cr3 (cf cpt rs4) 32 1, many (rsE 77 74 3 rs4)]) HS) hR5 (by omega) (by omega)).mono ?_
  rintro e W9 ⟨rs7, rfl, H_, hR8, hlrs7⟩
  rw [show addMB ([[], [], []]) 3 0 1 = true by decide]
  refine ⟨_, rfl, ?_⟩
  replace HS : St W (owns []) W9 [blk g1 [.slice (some ⟨a2, 0, none⟩) rs7.length cr3, .int .i64 3] 87, row (some ⟨a2, 0, none⟩) rs7.length cr3 (cf cpt rs7) 32 1, many (rsE 77 74 3 rs7)] := HS.join (F := [blk g1 [.slice (some ⟨a2, 0, none⟩) rs4.length cr3, .int .i64 3] 87, row (some ⟨a2, 0, none⟩) rs4.length cr3 (cf cpt rs4) 32 1, many (rsE 77 74 3 rs4)]) (G := [blk g1 [.slice (some ⟨a2, 0, none⟩) rs7.length cr3, .int .i64 3] 87, row (some ⟨a2, 0, none⟩) rs7.length cr3 (cf cpt rs7) 32 1, many (rsE 77 74 3 rs7)]) H_
  clear H_
  replace hR8 : MRep rs7 3 [[1], [], []] := hR8
  refine ql (.pointer (some ⟨g1, 0, none⟩)) (by kernel_rfl) (by kernel_rfl) ?_
  refine qc (f := 36) (args := #[.pointer (some ⟨g1, 0, none⟩), .int .i64 1, .int .i64 2]) (by kernel_rfl) (R_call #[.pointer (some ⟨g1, 0, none⟩), .int .i64 1, .int .i64 2] Tryd.func36 (by kernel_rfl) (by kernel_rfl) (by kernel_rfl)) ?_
  refine (madd g1 cr3 (some ⟨a2, 0, none⟩) 3 rs7 ([[1], [], []]) 1 2 _ _ (St.focus (F := [blk g1 [.slice (some ⟨a2, 0, none⟩) rs7.length cr3, .int .i64 3] 87, row (some ⟨a2, 0, none⟩) rs7.length cr3 (cf cpt rs7) 32 1, many (rsE 77 74 3 rs7)]) HS) hR8 (by omega) (by omega)).mono ?_
  rintro e W12 ⟨rs10, rfl, H_, hR11, hlrs10⟩
  rw [show addMB ([[1], [], []]) 3 1 2 = true by decide]
  refine ⟨_, rfl, ?_⟩
  replace HS : St W (owns []) W12 [blk g1 [.slice (some ⟨a2, 0, none⟩) rs10.length cr3, .int .i64 3] 87, row (some ⟨a2, 0, none⟩) rs10.length cr3 (cf cpt rs10) 32 1, many (rsE 77 74 3 rs10)] := HS.join (F := [blk g1 [.slice (some ⟨a2, 0, none⟩) rs7.length cr3, .int .i64 3] 87, row (some ⟨a2, 0, none⟩) rs7.length cr3 (cf cpt rs7) 32 1, many (rsE 77 74 3 rs7)]) (G := [blk g1 [.slice (some ⟨a2, 0, none⟩) rs10.length cr3, .int .i64 3] 87, row (some ⟨a2, 0, none⟩) rs10.length cr3 (cf cpt rs10) 32 1, many (rsE 77 74 3 rs10)]) H_
  clear H_
  replace hR11 : MRep rs10 3 [[1], [2], []] := hR11
  refine ql (.bool true) (by kernel_rfl) (by kernel_rfl) ?_
  refine ql (.bool true) (by kernel_rfl) (by kernel_rfl) ?_
  refine wpList_nil ?_
  refine x_then ?_
  refine wp_seq ?_
  refine wp_region_lit ?_
  refine ql (.int .i64 0) (by kernel_rfl) (by kernel_rfl) ?_
  refine ql (.bool true) (by kernel_rfl) (R_beq (b := ((0 : Int) == 0)) (by kernel_rfl) (by decide)) ?_
  refine ql (.bool true) (by kernel_rfl) (by kernel_rfl) ?_
  refine ql (.bool true) (by kernel_rfl) (by kernel_rfl) ?_
  refine ql (.bool true) (by kernel_rfl) (by kernel_rfl) ?_
  refine ql (.bool true) (by kernel_rfl) (by kernel_rfl) ?_
  refine ql (.bool true) (by kernel_rfl) (by kernel_rfl) ?_
  refine ql (.bool true) (by kernel_rfl) (by kernel_rfl) ?_
  refine ql (.bool true) (by kernel_rfl) (by kernel_rfl) ?_
  refine ql (.pointer (some ⟨g1, 0, none⟩)) (by kernel_rfl) (by kernel_rfl) ?_
  refine qc (f := 37) (args := #[.pointer (some ⟨g1, 0, none⟩)]) (by kernel_rfl) (R_call #[.pointer (some ⟨g1, 0, none⟩)] Tryd.func37 (by kernel_rfl) (by kernel_rfl) (by kernel_rfl)) ?_
  refine (mclose g1 cr3 (some ⟨a2, 0, none⟩) 3 rs10 ([[1], [2], []]) _ _ (St.focus (F := [blk g1 [.slice (some ⟨a2, 0, none⟩) rs10.length cr3, .int .i64 3] 87, row (some ⟨a2, 0, none⟩) rs10.length cr3 (cf cpt rs10) 32 1, many (rsE 77 74 3 rs10)]) HS) hR11 (by omega) (by omega) (by omega)).mono ?_
  rintro e W15 ⟨rs13, rfl, H_, hR14, hlrs13⟩
  rw [show ((cntL (clo [[1], [2], []]) : Int) - (cntL [[1], [2], []] : Int)) = 1 by decide]
  refine ⟨_, rfl, ?_⟩
  replace HS : St W (owns []) W15 [blk g1 [.slice (some ⟨a2, 0, none⟩) rs13.length cr3, .int .i64 3] 87, row (some ⟨a2, 0, none⟩) rs13.length cr3 (cf cpt rs13) 32 1, many (rsE 77 74 3 rs13)] := HS.join (F := [blk g1 [.slice (some ⟨a2, 0, none⟩) rs10.length cr3, .int .i64 3] 87, row (some ⟨a2, 0, none⟩) rs10.length cr3 (cf cpt rs10) 32 1, many (rsE 77 74 3 rs10)]) (G := [blk g1 [.slice (some ⟨a2, 0, none⟩) rs13.length cr3, .int .i64 3] 87, row (some ⟨a2, 0, none⟩) rs13.length cr3 (cf cpt rs13) 32 1, many (rsE 77 74 3 rs13)]) H_
  clear H_
  replace hR14 : MRep rs13 3 [[1, 2], [2], []] := hR14
  refine ql (.bool true) (by kernel_rfl) (R_beq (b := ((1 : Int) == 1)) (by kernel_rfl) (by decide)) ?_
  refine ql (.bool true) (by kernel_rfl) (by kernel_rfl) ?_
  refine ql (.bool true) (by kernel_rfl) (by kernel_rfl) ?_
  refine ql (.pointer (some ⟨g1, 0, none⟩)) (by kernel_rfl) (by kernel_rfl) ?_
  refine qc (f := 28) (args := #[.pointer (some ⟨g1, 0, none⟩), .int .i64 0, .int .i64 2]) (by kernel_rfl) (R_call #[.pointer (some ⟨g1, 0, none⟩), .int .i64 0, .int .i64 2] Tryd.func28 (by kernel_rfl) (by kernel_rfl) (by kernel_rfl)) ?_
  refine (mhas g1 cr3 (some ⟨a2, 0, none⟩) 3 rs13 ([[1, 2], [2], []]) 0 2 _ (Mr.of HS (i := 0) (j := 1) (m := 2) rfl rfl rfl) hR14 (by omega) (by omega)).mono ?_
  rintro e W16 ⟨rfl, H_⟩
  rw [show decide ((2 : Int) ∈ rowL [[1, 2], [2], []] 0) = true by decide]
  refine ⟨_, rfl, ?_⟩
  replace HS : St W (owns []) W16 [blk g1 [.slice (some ⟨a2, 0, none⟩) rs13.length cr3, .int .i64 3] 87, row (some ⟨a2, 0, none⟩) rs13.length cr3 (cf cpt rs13) 32 1, many (rsE 77 74 3 rs13)] := HS.join (F := []) (G := []) H_
  clear H_
  refine ql (.bool true) (by kernel_rfl) (by kernel_rfl) ?_
  refine ql (.bool true) (by kernel_rfl) (by kernel_rfl) ?_
  refine ql (.pointer (some ⟨g1, 0, none⟩)) (by kernel_rfl) (by kernel_rfl) ?_
  refine qc (f := 30) (args := #[.pointer (some ⟨g1, 0, none⟩)]) (by kernel_rfl) (R_call #[.pointer (some ⟨g1, 0, none⟩)] Tryd.func30 (by kernel_rfl) (by kernel_rfl) (by kernel_rfl)) ?_
  refine (mcount g1 cr3 (some ⟨a2, 0, none⟩) 3 rs13 ([[1, 2], [2], []]) _ (Mr.of HS (i := 0) (j := 1) (m := 2) rfl rfl rfl) hR14 (by omega) (by omega)).mono ?_
  rintro e W17 ⟨rfl, H_⟩
  rw [show (cntL [[1, 2], [2], []] : Int) = 3 by decide]
  refine ⟨_, rfl, ?_⟩
  replace HS : St W (owns []) W17 [blk g1 [.slice (some ⟨a2, 0, none⟩) rs13.length cr3, .int .i64 3] 87, row (some ⟨a2, 0, none⟩) rs13.length cr3 (cf cpt rs13) 32 1, many (rsE 77 74 3 rs13)] := HS.join (F := []) (G := []) H_
  clear H_
  refine ql (.bool true) (by kernel_rfl) (R_beq (b := ((3 : Int) == 3)) (by kernel_rfl) (by decide)) ?_
  refine ql (.bool true) (by kernel_rfl) (by kernel_rfl) ?_
  refine ql (.bool true) (by kernel_rfl) (by kernel_rfl) ?_
  refine wpList_nil ?_
  refine x_then ?_
  refine wp_ret ?_
  refine ret_ (.bool true) (by kernel_rfl) ?_
  replace HS := HS.drop1
  replace HS := HS.drop1
  replace HS := HS.drop1
  exact ⟨rfl, HS⟩


set_option maxRecDepth 100000 in
set_option maxHeartbeats 1000000 in
theorem c6has (A : Option Addr) (c : Nat) (cs : List (Int × Int)) (rows cols : Int) (r q : Int) (W : World) (hr : Rd W A (cf actD cs)) (hl : cs.length ≤ 100000) : Calls Tryd.prog 29 #[.agg #[.int .i64 rows, .int .i64 cols, .slice A cs.length c], .int .i64 r, .int .i64 q] W fun e W' => e = .returned (.bool (decide ((r, q) ∈ cs))) ∧ St W (owns []) W' [] := by
  have HS : St W (owns []) W [] := St.start W _
  refine calls_enter [.agg #[.int .i64 rows, .int .i64 cols, .slice A cs.length c], .int .i64 r, .int .i64 q, undef, undef, undef, undef, undef, undef, undef, undef, undef, undef, undef, undef, undef, undef, undef, undef, undef, undef, undef, undef, undef, undef, undef, undef, undef, undef, undef, undef, undef, undef] Tryd.func29 rfl (by kernel_rfl) ?_
  refine wp_seq ?_
  refine wp_region_lit ?_
  refine kb HS [.int .i64 rows, .int .i64 cols, .slice A cs.length c] 46 (fun g => .pointer (some ⟨g, 0, none⟩)) (by kernel_rfl) (by kernel_rfl) ?_
  intro g1 W2 H_
  replace HS : St W (owns []) W2 [blk g1 [.int .i64 rows, .int .i64 cols, .slice A cs.length c] 46] := H_
  clear H_
  refine ql (.bool false) (by kernel_rfl) (by kernel_rfl) ?_
  refine wpList_nil ?_
  refine x_then ?_
  refine wp_seq ?_
  refine wp_seq ?_
  refine wp_region_lit ?_
  refine ql (.int .i64 0) (by kernel_rfl) (by kernel_rfl) ?_
  refine wpList_nil ?_
  refine x_then ?_
  refine wp_block ?_
  refine wp_loop_ghost (fun kq a' w' => ∃ (J3 : Nat → Value) (k : Int) , a' = Fr [.agg #[.int .i64 rows, .int .i64 cols, .slice A cs.length c], .int .i64 r, .int .i64 q, .pointer (some ⟨g1, 0, none⟩), undef, undef, (J3 6), .int .i64 k, (J3 8), (J3 9), (J3 10), (J3 11), (J3 12), (J3 13), (J3 14), (J3 15), (J3 16), (J3 17), (J3 18), (J3 19), (J3 20), (J3 21), (J3 22), (J3 23), (J3 24), (J3 25), (J3 26), (J3 27), (J3 28), (J3 29), (J3 30), (J3 31), (J3 32)] ∧ kq = (((cs.length : Int)).toNat - (k).toNat) ∧ (0 ≤ k) ∧ (k ≤ cs.length) ∧ ((r, q) ∉ cs.take (k).toNat) ∧ St W (owns []) w' [blk g1 [.int .i64 rows, .int .i64 cols, .slice A cs.length c] 46]) (((cs.length : Int)).toNat - ((0 : Int)).toNat) ⟨(fun k_ : Nat => List.getD [.agg #[.int .i64 rows, .int .i64 cols, .slice A cs.length c], .int .i64 r, .int .i64 q, .pointer (some ⟨g1, 0, none⟩), undef, undef, .bool false, .int .i64 0, undef, undef, undef, undef, undef, undef, undef, undef, undef, undef, undef, undef, undef, undef, undef, undef, undef, undef, undef, undef, undef, undef, undef, undef, undef] k_ undef), (0 : Int), congrArg Fr (by kernel_rfl), rfl, by omega, by omega, (by simp), HS⟩ ?_
  clear HS
  intro kq4 a' W5 hrel
  obtain ⟨J3, k, rfl, hk, k0, k1, hn, HS⟩ := hrel
  refine wp_seq ?_
  refine wp_seq ?_
  refine wp_region_lit ?_
  refine ql (.int .i64 k) (by kernel_rfl) (by kernel_rfl) ?_
  refine ql (.pointer (some ⟨g1, 2, none⟩)) (by kernel_rfl) (by kernel_rfl) ?_
  refine ql (.slice A cs.length c) (by kernel_rfl) (R_load (p := ⟨g1, 2, none⟩) (by kernel_rfl) (by kernel_rfl) (by kernel_rfl) (HS.cell (i := 0) (j := 2) rfl rfl)) ?_
  refine ql (.int .i64 (cs.length : Int)) (by kernel_rfl) (by kernel_rfl) ?_
  by_cases hc6 : k < (cs.length : Int)
  · skip
    refine ql (.bool true) (by kernel_rfl) (R_bool (p := k < (cs.length : Int)) (by kernel_rfl) (hc6)) ?_
    refine wpList_nil ?_
    refine x_then ?_
    refine wp_cond_true (by kernel_rfl) ?_
    refine wp_skip ?_
    refine x_then ?_
    refine wp_seq ?_
    refine wp_block ?_
    refine wp_seq ?_
    refine wp_region_lit ?_
    refine ql (.pointer (some ⟨g1, 2, none⟩)) (by kernel_rfl) (by kernel_rfl) ?_
    refine ql (.slice A cs.length c) (by kernel_rfl) (R_load (p := ⟨g1, 2, none⟩) (by kernel_rfl) (by kernel_rfl) (by kernel_rfl) (HS.cell (i := 0) (j := 2) rfl rfl)) ?_
    refine ql (.int .i64 k) (by kernel_rfl) (by kernel_rfl) ?_
    obtain ⟨ad7, rfl⟩ := Rd.isSome_ hr (by rw [cf_len (z := 2) (fun _ => rfl)]; omega)
    refine ql (.pointer (some (ad7.add (k.toNat * 2)))) (by kernel_rfl) (R_indexA (k := .i64) (p := ad7) (n := cs.length) (c := c) (i := k) (by kernel_rfl) (by kernel_rfl) Tryd.underlying44 (by kernel_rfl) (by omega) (by omega)) ?_
    refine ql (.pointer (some (ad7.add (k.toNat * 2)))) (by kernel_rfl) (by kernel_rfl) ?_
    refine ql (.int .i64 ((gx cs k).1)) (by kernel_rfl) (R_load (p := ad7.add (k.toNat * 2)) (by kernel_rfl) (by kernel_rfl) (by kernel_rfl) (HS.old0 (Rd.elem0 (f := actD) (fun _ => rfl) hr (gx_eq (by omega) (by omega)) rfl))) ?_
    refine ql (.int .i64 r) (by kernel_rfl) (by kernel_rfl) ?_
    by_cases hc8 : ((gx cs k).1) = r
    · skip
      refine ql (.bool true) (by kernel_rfl) (R_beq (b := ((gx cs k).1 == r)) (by kernel_rfl) (beq_t (hc8))) ?_
      refine ql (.bool true) (by kernel_rfl) (by kernel_rfl) ?_
      refine ql (.pointer (some ⟨g1, 2, none⟩)) (by kernel_rfl) (by kernel_rfl) ?_
      refine ql (.slice (some ad7) cs.length c) (by kernel_rfl) (R_load (p := ⟨g1, 2, none⟩) (by kernel_rfl) (by kernel_rfl) (by kernel_rfl) (HS.cell (i := 0) (j := 2) rfl rfl)) ?_
      refine ql (.int .i64 k) (by kernel_rfl) (by kernel_rfl) ?_
      refine ql (.pointer (some (ad7.add (k.toNat * 2)))) (by kernel_rfl) (R_indexA (k := .i64) (p := ad7) (n := cs.length) (c := c) (i := k) (by kernel_rfl) (by kernel_rfl) Tryd.underlying44 (by kernel_rfl) (by omega) (by omega)) ?_
      refine ql (.pointer (some ((ad7.add (k.toNat * 2)).add 1))) (by kernel_rfl) (by kernel_rfl) ?_
      refine ql (.int .i64 ((gx cs k).2)) (by kernel_rfl) (R_load (p := (ad7.add (k.toNat * 2)).add 1) (by kernel_rfl) (by kernel_rfl) (by kernel_rfl) (HS.old0 (Rd.elem1 (k := 1) (f := actD) (fun _ => rfl) hr (gx_eq (by omega) (by omega)) rfl))) ?_
      refine ql (.int .i64 q) (by kernel_rfl) (by kernel_rfl) ?_
      by_cases hc9 : ((gx cs k).2) = q
      · skip
        refine ql (.bool true) (by kernel_rfl) (R_beq (b := ((gx cs k).2 == q)) (by kernel_rfl) (beq_t (hc9))) ?_
        refine ql (.bool true) (by kernel_rfl) (by kernel_rfl) ?_
        refine wpList_nil ?_
        refine x_then ?_
        refine wp_cond_true (by kernel_rfl) ?_
        refine wp_seq ?_
        refine wp_region_lit ?_
        refine ql (.bool true) (by kernel_rfl) (by kernel_rfl) ?_
        refine wpList_nil ?_
        refine x_then ?_
        refine wp_ret ?_
        refine x_inbR ?_
        refine x_thenR ?_
        refine x_thenR ?_
        refine x_inbR ?_
        refine x_thenR ?_
        refine ret_ (.bool true) (by kernel_rfl) ?_
        replace HS := HS.drop1
        exact ⟨by rw [decide_eq_true (is_memP k0 (by omega) hc8 hc9)], HS⟩
      · skip
        refine ql (.bool false) (by kernel_rfl) (R_beq (b := ((gx cs k).2 == q)) (by kernel_rfl) (beq_f (hc9))) ?_
        refine ql (.bool false) (by kernel_rfl) (by kernel_rfl) ?_
        refine wpList_nil ?_
        refine x_then ?_
        refine wp_cond_false (by kernel_rfl) ?_
        refine wp_skip ?_
        refine x_inb ?_
        refine x_then ?_
        refine wp_region_lit ?_
        refine ql (.int .i64 k) (by kernel_rfl) (by kernel_rfl) ?_
        refine ql (.int .i64 (k + 1)) (by kernel_rfl) (R_int (by kernel_rfl) (w64 (by omega))) ?_
        refine ql (.int .i64 (k + 1)) (by kernel_rfl) (by kernel_rfl) ?_
        refine wpList_nil ?_
        refine x_then ?_
        exact ⟨((cs.length : Int)).toNat - (k + 1).toNat, by omega, (fun k_ : Nat => List.getD [.agg #[.int .i64 rows, .int .i64 cols, .slice (some ad7) cs.length c], .int .i64 r, .int .i64 q, .pointer (some ⟨g1, 0, none⟩), undef, undef, (J3 6), .int .i64 (k + 1), .int .i64 k, .pointer (some ⟨g1, 2, none⟩), .slice (some ad7) cs.length c, .int .i64 (cs.length : Int), .bool true, .int .i64 k, .int .i64 (k + 1), .pointer (some ⟨g1, 2, none⟩), .slice (some ad7) cs.length c, .int .i64 k, .pointer (some (ad7.add (k.toNat * 2))), .pointer (some (ad7.add (k.toNat * 2))), .int .i64 ((gx cs k).1), .int .i64 r, .bool true, .bool true, .pointer (some ⟨g1, 2, none⟩), .slice (some ad7) cs.length c, .int .i64 k, .pointer (some (ad7.add (k.toNat * 2))), .pointer (some ((ad7.add (k.toNat * 2)).add 1)), .int .i64 ((gx cs k).2), .int .i64 q, .bool false, .bool false] k_ undef), k + 1, congrArg Fr (by kernel_rfl), rfl, by omega, by omega, no_takeP hn k0 (by omega) (fun h_ => hc9 h_.2), HS⟩
    · skip
      refine ql (.bool false) (by kernel_rfl) (R_beq (b := ((gx cs k).1 == r)) (by kernel_rfl) (beq_f (hc8))) ?_
      refine ql (.bool false) (by kernel_rfl) (by kernel_rfl) ?_
      refine qln (by kernel_rfl) ?_
      refine qln (by kernel_rfl) ?_
      refine qln (by kernel_rfl) ?_
      refine qln (by kernel_rfl) ?_
      refine qln (by kernel_rfl) ?_
      refine qln (by kernel_rfl) ?_
      refine qln (by kernel_rfl) ?_
      refine qln (by kernel_rfl) ?_
      refine ql (.bool false) (by kernel_rfl) (by kernel_rfl) ?_
      refine wpList_nil ?_
      refine x_then ?_
      refine wp_cond_false (by kernel_rfl) ?_
      refine wp_skip ?_
      refine x_inb ?_
      refine x_then ?_
      refine wp_region_lit ?_
      refine ql (.int .i64 k) (by kernel_rfl) (by kernel_rfl) ?_
      refine ql (.int .i64 (k + 1)) (by kernel_rfl) (R_int (by kernel_rfl) (w64 (by omega))) ?_
      refine ql (.int .i64 (k + 1)) (by kernel_rfl) (by kernel_rfl) ?_
      refine wpList_nil ?_
      refine x_then ?_
      exact ⟨((cs.length : Int)).toNat - (k + 1).toNat, by omega, (fun k_ : Nat => List.getD [.agg #[.int .i64 rows, .int .i64 cols, .slice (some ad7) cs.length c], .int .i64 r, .int .i64 q, .pointer (some ⟨g1, 0, none⟩), undef, undef, (J3 6), .int .i64 (k + 1), .int .i64 k, .pointer (some ⟨g1, 2, none⟩), .slice (some ad7) cs.length c, .int .i64 (cs.length : Int), .bool true, .int .i64 k, .int .i64 (k + 1), .pointer (some ⟨g1, 2, none⟩), .slice (some ad7) cs.length c, .int .i64 k, .pointer (some (ad7.add (k.toNat * 2))), .pointer (some (ad7.add (k.toNat * 2))), .int .i64 ((gx cs k).1), .int .i64 r, .bool false, .bool false, undef, undef, undef, undef, undef, undef, undef, undef, .bool false] k_ undef), k + 1, congrArg Fr (by kernel_rfl), rfl, by omega, by omega, no_takeP hn k0 (by omega) (fun h_ => hc8 h_.1), HS⟩
  · skip
    refine ql (.bool false) (by kernel_rfl) (R_nbool (p := k < (cs.length : Int)) (by kernel_rfl) (hc6)) ?_
    refine wpList_nil ?_
    refine x_then ?_
    refine wp_cond_false (by kernel_rfl) ?_
    refine wp_exit ?_
    refine x_thenE ?_
    refine x_thenE ?_
    refine x_hit ?_
    refine x_then ?_
    refine wp_seq ?_
    refine wp_region_lit ?_
    refine ql (.bool false) (by kernel_rfl) (by kernel_rfl) ?_
    refine wpList_nil ?_
    refine x_then ?_
    refine wp_ret ?_
    refine ret_ (.bool false) (by kernel_rfl) ?_
    replace HS := HS.drop1
    rw [show k.toNat = cs.length by omega, List.take_length] at hn
    exact ⟨by rw [decide_eq_false hn], HS⟩

set_option maxRecDepth 100000 in
set_option maxHeartbeats 1000000 in
theorem c6row (A : Option Addr) (c : Nat) (cs : List (Int × Int)) (rows cols : Int) (r : Int) (W : World) (hr : Rd W A (cf actD cs)) (hl : cs.length ≤ 100000) (h0 : 0 ≤ cols) (h1 : cols ≤ 100000) : Calls Tryd.prog 33 #[.agg #[.int .i64 rows, .int .i64 cols, .slice A cs.length c], .int .i64 r] W fun e W' => ∃ A' c', e = .returned (.slice A' (rowC cs r cols).length c') ∧ St W (owns []) W' [row A' (rowC cs r cols).length c' (ci .i64 (rowC cs r cols)) 3 1] := by
  have HS : St W (owns []) W [] := St.start W _
  refine calls_enter [.agg #[.int .i64 rows, .int .i64 cols, .slice A cs.length c], .int .i64 r, undef, undef, undef, undef, undef, undef, undef, undef, undef, undef, undef, undef, undef, undef, undef, undef, undef, undef, undef, undef, undef] Tryd.func33 rfl (by kernel_rfl) ?_
  refine wp_seq ?_
  refine wp_region_lit ?_
  refine kb HS [.int .i64 rows, .int .i64 cols, .slice A cs.length c] 46 (fun g => .pointer (some ⟨g, 0, none⟩)) (by kernel_rfl) (by kernel_rfl) ?_
  intro g1 W2 H_
  replace HS : St W (owns []) W2 [blk g1 [.int .i64 rows, .int .i64 cols, .slice A cs.length c] 46] := H_
  clear H_
  refine ql (.slice none 0 0) (by kernel_rfl) (by kernel_rfl) ?_
  refine wpList_nil ?_
  refine x_then ?_
  refine wp_seq ?_
  refine wp_region_lit ?_
  refine kl HS 0 [] 3 1 (by kernel_rfl) (by kernel_rfl) rfl (by decide) ?_
  intro g3 W4 H_
  replace HS : St W (owns []) W4 [row (some ⟨g3, 0, none⟩) 0 0 (ci .i64 ([])) 3 1, blk g1 [.int .i64 rows, .int .i64 cols, .slice A cs.length c] 46] := H_.cast_ (by kernel_rfl)
  clear H_
  refine ql (.slice (some ⟨g3, 0, none⟩) 0 0) (by kernel_rfl) (by kernel_rfl) ?_
  refine wpList_nil ?_
  refine x_then ?_
  refine wp_seq ?_
  refine wp_seq ?_
  refine wp_region_lit ?_
  refine ql (.int .i64 0) (by kernel_rfl) (by kernel_rfl) ?_
  refine wpList_nil ?_
  refine x_then ?_
  refine wp_block ?_
  refine wp_loop_ghost (fun kq a' w' => ∃ (J5 : Nat → Value) (k : Int) (o : List Int) (Ao : Option Addr) (co : Nat) , a' = Fr [.agg #[.int .i64 rows, .int .i64 cols, .slice A cs.length c], .int .i64 r, .pointer (some ⟨g1, 0, none⟩), undef, .slice none 0 0, .slice Ao o.length co, .int .i64 k, .slice (some ⟨g3, 0, none⟩) 0 0, (J5 8), (J5 9), (J5 10), (J5 11), (J5 12), (J5 13), (J5 14), (J5 15), (J5 16), (J5 17), (J5 18), (J5 19), (J5 20), (J5 21), undef] ∧ kq = (((cols : Int)).toNat - (k).toNat) ∧ (0 ≤ k) ∧ (k ≤ cols) ∧ (o = rowC cs r k) ∧ St W (owns []) w' [row Ao o.length co (ci .i64 o) 3 1, blk g1 [.int .i64 rows, .int .i64 cols, .slice A cs.length c] 46]) (((cols : Int)).toNat - ((0 : Int)).toNat) ⟨(fun k_ : Nat => List.getD [.agg #[.int .i64 rows, .int .i64 cols, .slice A cs.length c], .int .i64 r, .pointer (some ⟨g1, 0, none⟩), undef, .slice none 0 0, .slice (some ⟨g3, 0, none⟩) 0 0, .int .i64 0, .slice (some ⟨g3, 0, none⟩) 0 0, undef, undef, undef, undef, undef, undef, undef, undef, undef, undef, undef, undef, undef, undef, undef] k_ undef), (0 : Int), [], some ⟨g3, 0, none⟩, 0, congrArg Fr (by kernel_rfl), rfl, by omega, by omega, rfl, HS⟩ ?_
  clear HS
  intro kq6 a' W7 hrel
  obtain ⟨J5, k, o, Ao, co, rfl, hk, k0, k1, ho, HS⟩ := hrel
  have hol : o.length ≤ k.toNat := by rw [ho]; exact rowC_len
  refine wp_seq ?_
  refine wp_seq ?_
  refine wp_region_lit ?_
  refine ql (.int .i64 k) (by kernel_rfl) (by kernel_rfl) ?_
  refine ql (.pointer (some ⟨g1, 1, none⟩)) (by kernel_rfl) (by kernel_rfl) ?_
  refine ql (.int .i64 cols) (by kernel_rfl) (R_load (p := ⟨g1, 1, none⟩) (by kernel_rfl) (by kernel_rfl) (by kernel_rfl) (HS.cell (i := 1) (j := 1) rfl rfl)) ?_
  by_cases hc8 : k < cols
  · skip
    refine ql (.bool true) (by kernel_rfl) (R_bool (p := k < cols) (by kernel_rfl) (hc8)) ?_
    refine wpList_nil ?_
    refine x_then ?_
    refine wp_cond_true (by kernel_rfl) ?_
    refine wp_skip ?_
    refine x_then ?_
    refine wp_seq ?_
    refine wp_block ?_
    refine wp_seq ?_
    refine wp_region_lit ?_
    refine ql (.agg #[.int .i64 rows, .int .i64 cols, .slice A cs.length c]) (by kernel_rfl) (R_loadN (p := ⟨g1, 0, none⟩) [.int .i64 rows, .int .i64 cols, .slice A cs.length c] (by kernel_rfl) (by kernel_rfl) (by kernel_rfl) (by kernel_rfl) (three_at (HS.cell (i := 1) (j := 0) rfl rfl) (HS.cell (i := 1) (j := 1) rfl rfl) (HS.cell (i := 1) (j := 2) rfl rfl))) ?_
    refine ql (.int .i64 r) (by kernel_rfl) (by kernel_rfl) ?_
    refine ql (.int .i64 k) (by kernel_rfl) (by kernel_rfl) ?_
    refine qc (f := 29) (args := #[.agg #[.int .i64 rows, .int .i64 cols, .slice A cs.length c], .int .i64 r, .int .i64 k]) (by kernel_rfl) (R_call #[.agg #[.int .i64 rows, .int .i64 cols, .slice A cs.length c], .int .i64 r, .int .i64 k] Tryd.func29 (by kernel_rfl) (by kernel_rfl) (by kernel_rfl)) ?_
    by_cases hv : (r, k) ∈ cs
    · skip
      have hdx : decide ((r, k) ∈ cs) = true := decide_eq_true hv
      refine (c6has A c cs rows cols r k _ (hr.old0 HS) hl).mono ?_
      rintro e W9 ⟨rfl, H_⟩
      rw [hdx]
      refine ⟨_, rfl, ?_⟩
      replace HS : St W (owns []) W9 [row Ao o.length co (ci .i64 o) 3 1, blk g1 [.int .i64 rows, .int .i64 cols, .slice A cs.length c] 46] := HS.join (F := []) (G := []) H_
      clear H_
      refine wpList_nil ?_
      refine x_then ?_
      refine wp_cond_true (by kernel_rfl) ?_
      refine wp_region_lit ?_
      refine ql (.slice Ao o.length co) (by kernel_rfl) (by kernel_rfl) ?_
      refine ql (.int .i64 k) (by kernel_rfl) (by kernel_rfl) ?_
      refine kl HS 1 [.int .i64 k] 3 1 (by kernel_rfl) (by kernel_rfl) rfl (by decide) ?_
      intro g10 W11 H_
      replace HS : St W (owns []) W11 [row (some ⟨g10, 0, none⟩) 1 1 (ci .i64 ([k])) 3 1, row Ao o.length co (ci .i64 o) 3 1, blk g1 [.int .i64 rows, .int .i64 cols, .slice A cs.length c] 46] := H_.cast_ (by kernel_rfl)
      clear H_
      obtain ⟨xs15, xs15_⟩ : ∃ z_ : List Int, z_ = o ++ ([k]) := ⟨_, rfl⟩
      have xs15l : xs15.length = o.length + 1 := by rw [xs15_, List.length_append] <;> (try simp only [List.length_cons, List.length_nil]) <;> omega
      refine ka1 HS 1 rfl (Src.of_row HS (i := 0) rfl ci_one) [.int .i64 0] 8 xs15.length (ci .i64 xs15) (by omega) (by rw [xs15_, ci_app]) (by kernel_rfl) (by kernel_rfl) (by kernel_rfl) Tryd.underlying38 (by kernel_rfl) (by kernel_rfl) (by kernel_rfl) (by kernel_rfl) (by decide) (by omega) (by omega) ?_
      intro A12 c13 W14 H_
      replace HS : St W (owns []) W14 [row (some ⟨g10, 0, none⟩) 1 1 (ci .i64 ([k])) 3 1, row A12 xs15.length c13 (ci .i64 xs15) 3 1, blk g1 [.int .i64 rows, .int .i64 cols, .slice A cs.length c] 46] := H_
      clear H_
      refine ql (.slice A12 xs15.length c13) (by kernel_rfl) (by kernel_rfl) ?_
      refine wpList_nil ?_
      refine x_inb ?_
      refine x_then ?_
      refine wp_region_lit ?_
      refine ql (.int .i64 k) (by kernel_rfl) (by kernel_rfl) ?_
      refine ql (.int .i64 (k + 1)) (by kernel_rfl) (R_int (by kernel_rfl) (w64 (by omega))) ?_
      refine ql (.int .i64 (k + 1)) (by kernel_rfl) (by kernel_rfl) ?_
      refine wpList_nil ?_
      replace HS := HS.drop1
      refine x_then ?_
      exact ⟨((cols : Int)).toNat - (k + 1).toNat, by omega, (fun k_ : Nat => List.getD [.agg #[.int .i64 rows, .int .i64 cols, .slice A cs.length c], .int .i64 r, .pointer (some ⟨g1, 0, none⟩), undef, .slice none 0 0, .slice A12 xs15.length c13, .int .i64 (k + 1), .slice (some ⟨g3, 0, none⟩) 0 0, .int .i64 k, .pointer (some ⟨g1, 1, none⟩), .int .i64 cols, .bool true, .int .i64 k, .int .i64 (k + 1), .agg #[.int .i64 rows, .int .i64 cols, .slice A cs.length c], .int .i64 r, .int .i64 k, .bool true, .slice Ao o.length co, .int .i64 k, .slice (some ⟨g10, 0, none⟩) 1 1, .slice A12 xs15.length c13, undef] k_ undef), k + 1, xs15, A12, c13, congrArg Fr (by kernel_rfl), rfl, by omega, by omega, (by rw [rowC_step k0, if_pos hv, xs15_, ho]), HS⟩
    · skip
      have hdx : decide ((r, k) ∈ cs) = false := decide_eq_false hv
      refine (c6has A c cs rows cols r k _ (hr.old0 HS) hl).mono ?_
      rintro e W16 ⟨rfl, H_⟩
      rw [hdx]
      refine ⟨_, rfl, ?_⟩
      replace HS : St W (owns []) W16 [row Ao o.length co (ci .i64 o) 3 1, blk g1 [.int .i64 rows, .int .i64 cols, .slice A cs.length c] 46] := HS.join (F := []) (G := []) H_
      clear H_
      refine wpList_nil ?_
      refine x_then ?_
      refine wp_cond_false (by kernel_rfl) ?_
      refine wp_skip ?_
      refine x_inb ?_
      refine x_then ?_
      refine wp_region_lit ?_
      refine ql (.int .i64 k) (by kernel_rfl) (by kernel_rfl) ?_
      refine ql (.int .i64 (k + 1)) (by kernel_rfl) (R_int (by kernel_rfl) (w64 (by omega))) ?_
      refine ql (.int .i64 (k + 1)) (by kernel_rfl) (by kernel_rfl) ?_
      refine wpList_nil ?_
      refine x_then ?_
      exact ⟨((cols : Int)).toNat - (k + 1).toNat, by omega, (fun k_ : Nat => List.getD [.agg #[.int .i64 rows, .int .i64 cols, .slice A cs.length c], .int .i64 r, .pointer (some ⟨g1, 0, none⟩), undef, .slice none 0 0, .slice Ao o.length co, .int .i64 (k + 1), .slice (some ⟨g3, 0, none⟩) 0 0, .int .i64 k, .pointer (some ⟨g1, 1, none⟩), .int .i64 cols, .bool true, .int .i64 k, .int .i64 (k + 1), .agg #[.int .i64 rows, .int .i64 cols, .slice A cs.length c], .int .i64 r, .int .i64 k, .bool false, (J5 18), (J5 19), (J5 20), (J5 21), undef] k_ undef), k + 1, o, Ao, co, congrArg Fr (by kernel_rfl), rfl, by omega, by omega, (by rw [rowC_step k0, if_neg hv, List.append_nil]; exact ho), HS⟩
  · skip
    refine ql (.bool false) (by kernel_rfl) (R_nbool (p := k < cols) (by kernel_rfl) (hc8)) ?_
    refine wpList_nil ?_
    refine x_then ?_
    refine wp_cond_false (by kernel_rfl) ?_
    refine wp_exit ?_
    refine x_thenE ?_
    refine x_thenE ?_
    refine x_hit ?_
    refine x_then ?_
    refine wp_seq ?_
    refine wp_region_lit ?_
    refine ql (.slice Ao o.length co) (by kernel_rfl) (by kernel_rfl) ?_
    refine ql (.slice Ao o.length co) (by kernel_rfl) (by kernel_rfl) ?_
    refine wpList_nil ?_
    refine x_then ?_
    refine wp_ret ?_
    refine ret_ (.slice Ao o.length co) (by kernel_rfl) ?_
    have hk9 : k = cols := by omega
    rw [hk9] at ho
    replace HS : St W (owns []) W7 [row Ao o.length co (ci .i64 o) 3 1] := St.tail (F := [blk g1 [.int .i64 rows, .int .i64 cols, .slice A cs.length c] 46]) (HS.perm (perm_ [1, 0] (by kernel_rfl) rfl))
    subst ho
    exact ⟨_, _, rfl, HS⟩

set_option maxRecDepth 100000 in
set_option maxHeartbeats 1000000 in
theorem c6col (A : Option Addr) (c : Nat) (cs : List (Int × Int)) (rows cols : Int) (r : Int) (W : World) (hr : Rd W A (cf actD cs)) (hl : cs.length ≤ 100000) (h0 : 0 ≤ rows) (h1 : rows ≤ 100000) : Calls Tryd.prog 35 #[.agg #[.int .i64 rows, .int .i64 cols, .slice A cs.length c], .int .i64 r] W fun e W' => ∃ A' c', e = .returned (.slice A' (colC cs r rows).length c') ∧ St W (owns []) W' [row A' (colC cs r rows).length c' (ci .i64 (colC cs r rows)) 3 1] := by
  have HS : St W (owns []) W [] := St.start W _
  refine calls_enter [.agg #[.int .i64 rows, .int .i64 cols, .slice A cs.length c], .int .i64 r, undef, undef, undef, undef, undef, undef, undef, undef, undef, undef, undef, undef, undef, undef, undef, undef, undef, undef, undef, undef, undef] Tryd.func35 rfl (by kernel_rfl) ?_
  refine wp_seq ?_
  refine wp_region_lit ?_
  refine kb HS [.int .i64 rows, .int .i64 cols, .slice A cs.length c] 46 (fun g => .pointer (some ⟨g, 0, none⟩)) (by kernel_rfl) (by kernel_rfl) ?_
  intro g1 W2 H_
  replace HS : St W (owns []) W2 [blk g1 [.int .i64 rows, .int .i64 cols, .slice A cs.length c] 46] := H_
  clear H_
  refine ql (.slice none 0 0) (by kernel_rfl) (by kernel_rfl) ?_
  refine wpList_nil ?_
  refine x_then ?_
  refine wp_seq ?_
  refine wp_region_lit ?_
  refine kl HS 0 [] 3 1 (by kernel_rfl) (by kernel_rfl) rfl (by decide) ?_
  intro g3 W4 H_
  replace HS : St W (owns []) W4 [row (some ⟨g3, 0, none⟩) 0 0 (ci .i64 ([])) 3 1, blk g1 [.int .i64 rows, .int .i64 cols, .slice A cs.length c] 46] := H_.cast_ (by kernel_rfl)
  clear H_
  refine ql (.slice (some ⟨g3, 0, none⟩) 0 0) (by kernel_rfl) (by kernel_rfl) ?_
  refine wpList_nil ?_
  refine x_then ?_
  refine wp_seq ?_
  refine wp_seq ?_
  refine wp_region_lit ?_
  refine ql (.int .i64 0) (by kernel_rfl) (by kernel_rfl) ?_
  refine wpList_nil ?_
  refine x_then ?_
  refine wp_block ?_
  refine wp_loop_ghost (fun kq a' w' => ∃ (J5 : Nat → Value) (k : Int) (o : List Int) (Ao : Option Addr) (co : Nat) , a' = Fr [.agg #[.int .i64 rows, .int .i64 cols, .slice A cs.length c], .int .i64 r, .pointer (some ⟨g1, 0, none⟩), undef, .slice none 0 0, .slice Ao o.length co, .int .i64 k, .slice (some ⟨g3, 0, none⟩) 0 0, (J5 8), (J5 9), (J5 10), (J5 11), (J5 12), (J5 13), (J5 14), (J5 15), (J5 16), (J5 17), (J5 18), (J5 19), (J5 20), (J5 21), undef] ∧ kq = (((rows : Int)).toNat - (k).toNat) ∧ (0 ≤ k) ∧ (k ≤ rows) ∧ (o = colC cs r k) ∧ St W (owns []) w' [row Ao o.length co (ci .i64 o) 3 1, blk g1 [.int .i64 rows, .int .i64 cols, .slice A cs.length c] 46]) (((rows : Int)).toNat - ((0 : Int)).toNat) ⟨(fun k_ : Nat => List.getD [.agg #[.int .i64 rows, .int .i64 cols, .slice A cs.length c], .int .i64 r, .pointer (some ⟨g1, 0, none⟩), undef, .slice none 0 0, .slice (some ⟨g3, 0, none⟩) 0 0, .int .i64 0, .slice (some ⟨g3, 0, none⟩) 0 0, undef, undef, undef, undef, undef, undef, undef, undef, undef, undef, undef, undef, undef, undef, undef] k_ undef), (0 : Int), [], some ⟨g3, 0, none⟩, 0, congrArg Fr (by kernel_rfl), rfl, by omega, by omega, rfl, HS⟩ ?_
  clear HS
  intro kq6 a' W7 hrel
  obtain ⟨J5, k, o, Ao, co, rfl, hk, k0, k1, ho, HS⟩ := hrel
  have hol : o.length ≤ k.toNat := by rw [ho]; exact colC_len
  refine wp_seq ?_
  refine wp_seq ?_
  refine wp_region_lit ?_
  refine ql (.int .i64 k) (by kernel_rfl) (by kernel_rfl) ?_
  refine ql (.pointer (some ⟨g1, 0, none⟩)) (by kernel_rfl) (by kernel_rfl) ?_
  refine ql (.int .i64 rows) (by kernel_rfl) (R_load (p := ⟨g1, 0, none⟩) (by kernel_rfl) (by kernel_rfl) (by kernel_rfl) (HS.cell (i := 1) (j := 0) rfl rfl)) ?_
  by_cases hc8 : k < rows
  · skip
    refine ql (.bool true) (by kernel_rfl) (R_bool (p := k < rows) (by kernel_rfl) (hc8)) ?_
    refine wpList_nil ?_
    refine x_then ?_
    refine wp_cond_true (by kernel_rfl) ?_
    refine wp_skip ?_
    refine x_then ?_
    refine wp_seq ?_
    refine wp_block ?_
    refine wp_seq ?_
    refine wp_region_lit ?_
    refine ql (.agg #[.int .i64 rows, .int .i64 cols, .slice A cs.length c]) (by kernel_rfl) (R_loadN (p := ⟨g1, 0, none⟩) [.int .i64 rows, .int .i64 cols, .slice A cs.length c] (by kernel_rfl) (by kernel_rfl) (by kernel_rfl) (by kernel_rfl) (three_at (HS.cell (i := 1) (j := 0) rfl rfl) (HS.cell (i := 1) (j := 1) rfl rfl) (HS.cell (i := 1) (j := 2) rfl rfl))) ?_
    refine ql (.int .i64 k) (by kernel_rfl) (by kernel_rfl) ?_
    refine ql (.int .i64 r) (by kernel_rfl) (by kernel_rfl) ?_
    refine qc (f := 29) (args := #[.agg #[.int .i64 rows, .int .i64 cols, .slice A cs.length c], .int .i64 k, .int .i64 r]) (by kernel_rfl) (R_call #[.agg #[.int .i64 rows, .int .i64 cols, .slice A cs.length c], .int .i64 k, .int .i64 r] Tryd.func29 (by kernel_rfl) (by kernel_rfl) (by kernel_rfl)) ?_
    by_cases hv : (k, r) ∈ cs
    · skip
      have hdx : decide ((k, r) ∈ cs) = true := decide_eq_true hv
      refine (c6has A c cs rows cols k r _ (hr.old0 HS) hl).mono ?_
      rintro e W9 ⟨rfl, H_⟩
      rw [hdx]
      refine ⟨_, rfl, ?_⟩
      replace HS : St W (owns []) W9 [row Ao o.length co (ci .i64 o) 3 1, blk g1 [.int .i64 rows, .int .i64 cols, .slice A cs.length c] 46] := HS.join (F := []) (G := []) H_
      clear H_
      refine wpList_nil ?_
      refine x_then ?_
      refine wp_cond_true (by kernel_rfl) ?_
      refine wp_region_lit ?_
      refine ql (.slice Ao o.length co) (by kernel_rfl) (by kernel_rfl) ?_
      refine ql (.int .i64 k) (by kernel_rfl) (by kernel_rfl) ?_
      refine kl HS 1 [.int .i64 k] 3 1 (by kernel_rfl) (by kernel_rfl) rfl (by decide) ?_
      intro g10 W11 H_
      replace HS : St W (owns []) W11 [row (some ⟨g10, 0, none⟩) 1 1 (ci .i64 ([k])) 3 1, row Ao o.length co (ci .i64 o) 3 1, blk g1 [.int .i64 rows, .int .i64 cols, .slice A cs.length c] 46] := H_.cast_ (by kernel_rfl)
      clear H_
      obtain ⟨xs15, xs15_⟩ : ∃ z_ : List Int, z_ = o ++ ([k]) := ⟨_, rfl⟩
      have xs15l : xs15.length = o.length + 1 := by rw [xs15_, List.length_append] <;> (try simp only [List.length_cons, List.length_nil]) <;> omega
      refine ka1 HS 1 rfl (Src.of_row HS (i := 0) rfl ci_one) [.int .i64 0] 8 xs15.length (ci .i64 xs15) (by omega) (by rw [xs15_, ci_app]) (by kernel_rfl) (by kernel_rfl) (by kernel_rfl) Tryd.underlying38 (by kernel_rfl) (by kernel_rfl) (by kernel_rfl) (by kernel_rfl) (by decide) (by omega) (by omega) ?_
      intro A12 c13 W14 H_
      replace HS : St W (owns []) W14 [row (some ⟨g10, 0, none⟩) 1 1 (ci .i64 ([k])) 3 1, row A12 xs15.length c13 (ci .i64 xs15) 3 1, blk g1 [.int .i64 rows, .int .i64 cols, .slice A cs.length c] 46] := H_
      clear H_
      refine ql (.slice A12 xs15.length c13) (by kernel_rfl) (by kernel_rfl) ?_
      refine wpList_nil ?_
      refine x_inb ?_
      refine x_then ?_
      refine wp_region_lit ?_
      refine ql (.int .i64 k) (by kernel_rfl) (by kernel_rfl) ?_
      refine ql (.int .i64 (k + 1)) (by kernel_rfl) (R_int (by kernel_rfl) (w64 (by omega))) ?_
      refine ql (.int .i64 (k + 1)) (by kernel_rfl) (by kernel_rfl) ?_
      refine wpList_nil ?_
      replace HS := HS.drop1
      refine x_then ?_
      exact ⟨((rows : Int)).toNat - (k + 1).toNat, by omega, (fun k_ : Nat => List.getD [.agg #[.int .i64 rows, .int .i64 cols, .slice A cs.length c], .int .i64 r, .pointer (some ⟨g1, 0, none⟩), undef, .slice none 0 0, .slice A12 xs15.length c13, .int .i64 (k + 1), .slice (some ⟨g3, 0, none⟩) 0 0, .int .i64 k, .pointer (some ⟨g1, 0, none⟩), .int .i64 rows, .bool true, .int .i64 k, .int .i64 (k + 1), .agg #[.int .i64 rows, .int .i64 cols, .slice A cs.length c], .int .i64 k, .int .i64 r, .bool true, .slice Ao o.length co, .int .i64 k, .slice (some ⟨g10, 0, none⟩) 1 1, .slice A12 xs15.length c13, undef] k_ undef), k + 1, xs15, A12, c13, congrArg Fr (by kernel_rfl), rfl, by omega, by omega, (by rw [colC_step k0, if_pos hv, xs15_, ho]), HS⟩
    · skip
      have hdx : decide ((k, r) ∈ cs) = false := decide_eq_false hv
      refine (c6has A c cs rows cols k r _ (hr.old0 HS) hl).mono ?_
      rintro e W16 ⟨rfl, H_⟩
      rw [hdx]
      refine ⟨_, rfl, ?_⟩
      replace HS : St W (owns []) W16 [row Ao o.length co (ci .i64 o) 3 1, blk g1 [.int .i64 rows, .int .i64 cols, .slice A cs.length c] 46] := HS.join (F := []) (G := []) H_
      clear H_
      refine wpList_nil ?_
      refine x_then ?_
      refine wp_cond_false (by kernel_rfl) ?_
      refine wp_skip ?_
      refine x_inb ?_
      refine x_then ?_
      refine wp_region_lit ?_
      refine ql (.int .i64 k) (by kernel_rfl) (by kernel_rfl) ?_
      refine ql (.int .i64 (k + 1)) (by kernel_rfl) (R_int (by kernel_rfl) (w64 (by omega))) ?_
      refine ql (.int .i64 (k + 1)) (by kernel_rfl) (by kernel_rfl) ?_
      refine wpList_nil ?_
      refine x_then ?_
      exact ⟨((rows : Int)).toNat - (k + 1).toNat, by omega, (fun k_ : Nat => List.getD [.agg #[.int .i64 rows, .int .i64 cols, .slice A cs.length c], .int .i64 r, .pointer (some ⟨g1, 0, none⟩), undef, .slice none 0 0, .slice Ao o.length co, .int .i64 (k + 1), .slice (some ⟨g3, 0, none⟩) 0 0, .int .i64 k, .pointer (some ⟨g1, 0, none⟩), .int .i64 rows, .bool true, .int .i64 k, .int .i64 (k + 1), .agg #[.int .i64 rows, .int .i64 cols, .slice A cs.length c], .int .i64 k, .int .i64 r, .bool false, (J5 18), (J5 19), (J5 20), (J5 21), undef] k_ undef), k + 1, o, Ao, co, congrArg Fr (by kernel_rfl), rfl, by omega, by omega, (by rw [colC_step k0, if_neg hv, List.append_nil]; exact ho), HS⟩
  · skip
    refine ql (.bool false) (by kernel_rfl) (R_nbool (p := k < rows) (by kernel_rfl) (hc8)) ?_
    refine wpList_nil ?_
    refine x_then ?_
    refine wp_cond_false (by kernel_rfl) ?_
    refine wp_exit ?_
    refine x_thenE ?_
    refine x_thenE ?_
    refine x_hit ?_
    refine x_then ?_
    refine wp_seq ?_
    refine wp_region_lit ?_
    refine ql (.slice Ao o.length co) (by kernel_rfl) (by kernel_rfl) ?_
    refine ql (.slice Ao o.length co) (by kernel_rfl) (by kernel_rfl) ?_
    refine wpList_nil ?_
    refine x_then ?_
    refine wp_ret ?_
    refine ret_ (.slice Ao o.length co) (by kernel_rfl) ?_
    have hk9 : k = rows := by omega
    rw [hk9] at ho
    replace HS : St W (owns []) W7 [row Ao o.length co (ci .i64 o) 3 1] := St.tail (F := [blk g1 [.int .i64 rows, .int .i64 cols, .slice A cs.length c] 46]) (HS.perm (perm_ [1, 0] (by kernel_rfl) rfl))
    subst ho
    exact ⟨_, _, rfl, HS⟩

set_option maxRecDepth 100000 in
set_option maxHeartbeats 1000000 in
theorem c6add (A : Option Addr) (c : Nat) (cs : List (Int × Int)) (rows cols : Int) (Ls : List (List Int)) (r q : Int) (W : World) (M : Nat → Prop) (HS : St W M W [row A cs.length c (cf actD cs) 58 2]) (hl : cs.length ≤ 90000) (hMC : MC cs Ls) (hlen : (Ls.length : Int) = rows) : Calls Tryd.prog 52 #[.agg #[.int .i64 rows, .int .i64 cols, .slice A cs.length c], .int .i64 r, .int .i64 q] W fun e W' => ∃ A' c' cs', e = .returned (.tuple #[.agg #[.int .i64 rows, .int .i64 cols, .slice A' cs'.length c'], .bool (addMB Ls cols r q)]) ∧ St W M W' [row A' cs'.length c' (cf actD cs') 58 2] ∧ MC cs' (addM Ls cols r q) := by
  refine calls_enter ((.agg #[.int .i64 rows, .int .i64 cols, .slice A cs.length c]) :: (.int .i64 r) :: (.int .i64 q) :: undef :: undef :: undef :: undef :: undef :: undef :: undef :: undef :: undef :: undef :: undef :: undef :: undef :: undef :: undef :: undef :: undef :: undef :: undef :: undef :: undef :: undef :: undef :: undef :: undef :: undef :: undef :: undef :: undef :: undef :: undef :: undef :: undef :: undef :: undef :: undef :: undef :: undef :: undef :: undef :: undef :: undef :: undef :: undef :: undef :: undef :: undef :: undef :: []) Tryd.func52 rfl (by kernel_rfl) ?_
  refine wp_seq ?_
  refine wp_region_lit ?_
  refine kb HS [.int .i64 rows, .int .i64 cols, .slice A cs.length c] 46 (fun g => .pointer (some ⟨g, 0, none⟩)) (by kernel_rfl) (by kernel_rfl) ?_
  intro g1 W2 H_
  replace HS : St W M W2 [blk g1 [.int .i64 rows, .int .i64 cols, .slice A cs.length c] 46, row A cs.length c (cf actD cs) 58 2] := H_
  clear H_
  refine kb HS [.int .i64 0, .int .i64 0, .slice none 0 0] 46 (fun g => .pointer (some ⟨g, 0, none⟩)) (by kernel_rfl) (by kernel_rfl) ?_
  intro g3 W4 H_
  replace HS : St W M W4 [blk g3 [.int .i64 0, .int .i64 0, .slice none 0 0] 46, blk g1 [.int .i64 rows, .int .i64 cols, .slice A cs.length c] 46, row A cs.length c (cf actD cs) 58 2] := H_
  clear H_
  refine ql (.bool false) (by kernel_rfl) (by kernel_rfl) ?_
  refine wpList_nil ?_
  refine x_then ?_
  refine wp_seq ?_
  refine wp_seq ?_
  refine wp_region_lit ?_
  refine ql (.int .i64 r) (by kernel_rfl) (by kernel_rfl) ?_
  by_cases hc5 : r < (0 : Int)
  · skip
    refine ql (.bool true) (by kernel_rfl) (R_bool (p := r < (0 : Int)) (by kernel_rfl) (hc5)) ?_
    refine ql (.bool true) (by kernel_rfl) (by kernel_rfl) ?_
    refine qln (by kernel_rfl) ?_
    refine qln (by kernel_rfl) ?_
    refine qln (by kernel_rfl) ?_
    refine qln (by kernel_rfl) ?_
    refine ql (.bool true) (by kernel_rfl) (by kernel_rfl) ?_
    refine ql (.bool true) (by kernel_rfl) (by kernel_rfl) ?_
    refine qln (by kernel_rfl) ?_
    refine qln (by kernel_rfl) ?_
    refine ql (.bool true) (by kernel_rfl) (by kernel_rfl) ?_
    refine ql (.bool true) (by kernel_rfl) (by kernel_rfl) ?_
    refine qln (by kernel_rfl) ?_
    refine qln (by kernel_rfl) ?_
    refine qln (by kernel_rfl) ?_
    refine qln (by kernel_rfl) ?_
    refine ql (.bool true) (by kernel_rfl) (by kernel_rfl) ?_
    refine ql (.bool true) (by kernel_rfl) (by kernel_rfl) ?_
    refine qln (by kernel_rfl) ?_
    refine qln (by kernel_rfl) ?_
    refine qln (by kernel_rfl) ?_
    refine qln (by kernel_rfl) ?_
    refine ql (.bool true) (by kernel_rfl) (by kernel_rfl) ?_
    refine wpList_nil ?_
    refine x_then ?_
    refine wp_cond_true (by kernel_rfl) ?_
    refine wp_seq ?_
    refine wp_region_lit ?_
    refine ql (.agg #[.int .i64 rows, .int .i64 cols, .slice A cs.length c]) (by kernel_rfl) (R_loadN (p := ⟨g1, 0, none⟩) [.int .i64 rows, .int .i64 cols, .slice A cs.length c] (by kernel_rfl) (by kernel_rfl) (by kernel_rfl) (by kernel_rfl) (three_at (HS.cell (i := 1) (j := 0) rfl rfl) (HS.cell (i := 1) (j := 1) rfl rfl) (HS.cell (i := 1) (j := 2) rfl rfl))) ?_
    refine ks (v := .agg #[.int .i64 rows, .int .i64 cols, .slice A cs.length c]) HS 0 rfl (0) [.int .i64 rows, .int .i64 cols, .slice A cs.length c] (by kernel_rfl) (by kernel_rfl) (by kernel_rfl) (by kernel_rfl) (by kernel_rfl) (one_ (by kernel_rfl)) (Nat.le_of_ble_eq_true rfl) rfl ?_
    intro W6 H_
    replace HS : St W M W6 [blk g3 [.int .i64 rows, .int .i64 cols, .slice A cs.length c] 46, blk g1 [.int .i64 rows, .int .i64 cols, .slice A cs.length c] 46, row A cs.length c (cf actD cs) 58 2] := H_
    clear H_
    refine ql (.bool false) (by kernel_rfl) (by kernel_rfl) ?_
    refine wpList_nil ?_
    refine x_then ?_
    refine wp_ret ?_
    refine x_thenR ?_
    refine ret_ (.tuple #[.agg #[.int .i64 rows, .int .i64 cols, .slice A cs.length c], .bool false]) (res2 rfl (oneRes_agg (p := ⟨g3, 0, none⟩) [.int .i64 rows, .int .i64 cols, .slice A cs.length c] (by kernel_rfl) (by kernel_rfl) (by kernel_rfl) (by kernel_rfl) (HS.cellsN (i := 0) rfl)) (oneRes_t (by kernel_rfl))) ?_
    replace HS := HS.drop1
    replace HS := HS.drop1
    have ha := mc_addN (cols := cols) (r := r) (c := q) hMC (.inl (by omega))
    exact ⟨A, c, cs, by rw [ha.2], HS, by rw [ha.1]; exact hMC⟩
  · skip
    refine ql (.bool false) (by kernel_rfl) (R_nbool (p := r < (0 : Int)) (by kernel_rfl) (hc5)) ?_
    refine ql (.bool false) (by kernel_rfl) (by kernel_rfl) ?_
    refine ql (.int .i64 r) (by kernel_rfl) (by kernel_rfl) ?_
    refine ql (.pointer (some ⟨g1, 0, none⟩)) (by kernel_rfl) (by kernel_rfl) ?_
    refine ql (.int .i64 rows) (by kernel_rfl) (R_load (p := ⟨g1, 0, none⟩) (by kernel_rfl) (by kernel_rfl) (by kernel_rfl) (HS.cell (i := 1) (j := 0) rfl rfl)) ?_
    by_cases hc7 : r ≥ rows
    · skip
      refine ql (.bool true) (by kernel_rfl) (R_bool (p := r ≥ rows) (by kernel_rfl) (hc7)) ?_
      refine ql (.bool true) (by kernel_rfl) (by kernel_rfl) ?_
      refine ql (.bool true) (by kernel_rfl) (by kernel_rfl) ?_
      refine qln (by kernel_rfl) ?_
      refine qln (by kernel_rfl) ?_
      refine ql (.bool true) (by kernel_rfl) (by kernel_rfl) ?_
      refine ql (.bool true) (by kernel_rfl) (by kernel_rfl) ?_
      refine qln (by kernel_rfl) ?_
      refine qln (by kernel_rfl) ?_
      refine qln (by kernel_rfl) ?_
      refine qln (by kernel_rfl) ?_
      refine ql (.bool true) (by kernel_rfl) (by kernel_rfl) ?_
      refine ql (.bool true) (by kernel_rfl) (by kernel_rfl) ?_
      refine qln (by kernel_rfl) ?_
      refine qln (by kernel_rfl) ?_
      refine qln (by kernel_rfl) ?_
      refine qln (by kernel_rfl) ?_
      refine ql (.bool true) (by kernel_rfl) (by kernel_rfl) ?_
      refine wpList_nil ?_
      refine x_then ?_
      refine wp_cond_true (by kernel_rfl) ?_
      refine wp_seq ?_
      refine wp_region_lit ?_
      refine ql (.agg #[.int .i64 rows, .int .i64 cols, .slice A cs.length c]) (by kernel_rfl) (R_loadN (p := ⟨g1, 0, none⟩) [.int .i64 rows, .int .i64 cols, .slice A cs.length c] (by kernel_rfl) (by kernel_rfl) (by kernel_rfl) (by kernel_rfl) (three_at (HS.cell (i := 1) (j := 0) rfl rfl) (HS.cell (i := 1) (j := 1) rfl rfl) (HS.cell (i := 1) (j := 2) rfl rfl))) ?_
      refine ks (v := .agg #[.int .i64 rows, .int .i64 cols, .slice A cs.length c]) HS 0 rfl (0) [.int .i64 rows, .int .i64 cols, .slice A cs.length c] (by kernel_rfl) (by kernel_rfl) (by kernel_rfl) (by kernel_rfl) (by kernel_rfl) (one_ (by kernel_rfl)) (Nat.le_of_ble_eq_true rfl) rfl ?_
      intro W8 H_
      replace HS : St W M W8 [blk g3 [.int .i64 rows, .int .i64 cols, .slice A cs.length c] 46, blk g1 [.int .i64 rows, .int .i64 cols, .slice A cs.length c] 46, row A cs.length c (cf actD cs) 58 2] := H_
      clear H_
      refine ql (.bool false) (by kernel_rfl) (by kernel_rfl) ?_
      refine wpList_nil ?_
      refine x_then ?_
      refine wp_ret ?_
      refine x_thenR ?_
      refine ret_ (.tuple #[.agg #[.int .i64 rows, .int .i64 cols, .slice A cs.length c], .bool false]) (res2 rfl (oneRes_agg (p := ⟨g3, 0, none⟩) [.int .i64 rows, .int .i64 cols, .slice A cs.length c] (by kernel_rfl) (by kernel_rfl) (by kernel_rfl) (by kernel_rfl) (HS.cellsN (i := 0) rfl)) (oneRes_t (by kernel_rfl))) ?_
      replace HS := HS.drop1
      replace HS := HS.drop1
      have ha := mc_addN (cols := cols) (r := r) (c := q) hMC (.inl (by omega))
      exact ⟨A, c, cs, by rw [ha.2], HS, by rw [ha.1]; exact hMC⟩
    · skip
      refine ql (.bool false) (by kernel_rfl) (R_nbool (p := r ≥ rows) (by kernel_rfl) (hc7)) ?_
      refine ql (.bool false) (by kernel_rfl) (by kernel_rfl) ?_
      refine ql (.bool false) (by kernel_rfl) (by kernel_rfl) ?_
      refine ql (.int .i64 q) (by kernel_rfl) (by kernel_rfl) ?_
      by_cases hc9 : q < (0 : Int)
      · skip
        refine ql (.bool true) (by kernel_rfl) (R_bool (p := q < (0 : Int)) (by kernel_rfl) (hc9)) ?_
        refine ql (.bool true) (by kernel_rfl) (by kernel_rfl) ?_
        refine ql (.bool true) (by kernel_rfl) (by kernel_rfl) ?_
        refine qln (by kernel_rfl) ?_
        refine qln (by kernel_rfl) ?_
        refine qln (by kernel_rfl) ?_
        refine qln (by kernel_rfl) ?_
        refine ql (.bool true) (by kernel_rfl) (by kernel_rfl) ?_
        refine ql (.bool true) (by kernel_rfl) (by kernel_rfl) ?_
        refine qln (by kernel_rfl) ?_
        refine qln (by kernel_rfl) ?_
        refine qln (by kernel_rfl) ?_
        refine qln (by kernel_rfl) ?_
        refine ql (.bool true) (by kernel_rfl) (by kernel_rfl) ?_
        refine wpList_nil ?_
        refine x_then ?_
        refine wp_cond_true (by kernel_rfl) ?_
        refine wp_seq ?_
        refine wp_region_lit ?_
        refine ql (.agg #[.int .i64 rows, .int .i64 cols, .slice A cs.length c]) (by kernel_rfl) (R_loadN (p := ⟨g1, 0, none⟩) [.int .i64 rows, .int .i64 cols, .slice A cs.length c] (by kernel_rfl) (by kernel_rfl) (by kernel_rfl) (by kernel_rfl) (three_at (HS.cell (i := 1) (j := 0) rfl rfl) (HS.cell (i := 1) (j := 1) rfl rfl) (HS.cell (i := 1) (j := 2) rfl rfl))) ?_
        refine ks (v := .agg #[.int .i64 rows, .int .i64 cols, .slice A cs.length c]) HS 0 rfl (0) [.int .i64 rows, .int .i64 cols, .slice A cs.length c] (by kernel_rfl) (by kernel_rfl) (by kernel_rfl) (by kernel_rfl) (by kernel_rfl) (one_ (by kernel_rfl)) (Nat.le_of_ble_eq_true rfl) rfl ?_
        intro W10 H_
        replace HS : St W M W10 [blk g3 [.int .i64 rows, .int .i64 cols, .slice A cs.length c] 46, blk g1 [.int .i64 rows, .int .i64 cols, .slice A cs.length c] 46, row A cs.length c (cf actD cs) 58 2] := H_
        clear H_
        refine ql (.bool false) (by kernel_rfl) (by kernel_rfl) ?_
        refine wpList_nil ?_
        refine x_then ?_
        refine wp_ret ?_
        refine x_thenR ?_
        refine ret_ (.tuple #[.agg #[.int .i64 rows, .int .i64 cols, .slice A cs.length c], .bool false]) (res2 rfl (oneRes_agg (p := ⟨g3, 0, none⟩) [.int .i64 rows, .int .i64 cols, .slice A cs.length c] (by kernel_rfl) (by kernel_rfl) (by kernel_rfl) (by kernel_rfl) (HS.cellsN (i := 0) rfl)) (oneRes_t (by kernel_rfl))) ?_
        replace HS := HS.drop1
        replace HS := HS.drop1
        have ha := mc_addN (cols := cols) (r := r) (c := q) hMC (.inl (by omega))
        exact ⟨A, c, cs, by rw [ha.2], HS, by rw [ha.1]; exact hMC⟩
      · skip
        refine ql (.bool false) (by kernel_rfl) (R_nbool (p := q < (0 : Int)) (by kernel_rfl) (hc9)) ?_
        refine ql (.bool false) (by kernel_rfl) (by kernel_rfl) ?_
        refine ql (.bool false) (by kernel_rfl) (by kernel_rfl) ?_
        refine ql (.int .i64 q) (by kernel_rfl) (by kernel_rfl) ?_
        refine ql (.pointer (some ⟨g1, 1, none⟩)) (by kernel_rfl) (by kernel_rfl) ?_
        refine ql (.int .i64 cols) (by kernel_rfl) (R_load (p := ⟨g1, 1, none⟩) (by kernel_rfl) (by kernel_rfl) (by kernel_rfl) (HS.cell (i := 1) (j := 1) rfl rfl)) ?_
        by_cases hc11 : q ≥ cols
        · skip
          refine ql (.bool true) (by kernel_rfl) (R_bool (p := q ≥ cols) (by kernel_rfl) (hc11)) ?_
          refine ql (.bool true) (by kernel_rfl) (by kernel_rfl) ?_
          refine ql (.bool true) (by kernel_rfl) (by kernel_rfl) ?_
          refine qln (by kernel_rfl) ?_
          refine qln (by kernel_rfl) ?_
          refine qln (by kernel_rfl) ?_
          refine qln (by kernel_rfl) ?_
          refine ql (.bool true) (by kernel_rfl) (by kernel_rfl) ?_
          refine wpList_nil ?_
          refine x_then ?_
          refine wp_cond_true (by kernel_rfl) ?_
          refine wp_seq ?_
          refine wp_region_lit ?_
          refine ql (.agg #[.int .i64 rows, .int .i64 cols, .slice A cs.length c]) (by kernel_rfl) (R_loadN (p := ⟨g1, 0, none⟩) [.int .i64 rows, .int .i64 cols, .slice A cs.length c] (by kernel_rfl) (by kernel_rfl) (by kernel_rfl) (by kernel_rfl) (three_at (HS.cell (i := 1) (j := 0) rfl rfl) (HS.cell (i := 1) (j := 1) rfl rfl) (HS.cell (i := 1) (j := 2) rfl rfl))) ?_
          refine ks (v := .agg #[.int .i64 rows, .int .i64 cols, .slice A cs.length c]) HS 0 rfl (0) [.int .i64 rows, .int .i64 cols, .slice A cs.length c] (by kernel_rfl) (by kernel_rfl) (by kernel_rfl) (by kernel_rfl) (by kernel_rfl) (one_ (by kernel_rfl)) (Nat.le_of_ble_eq_true rfl) rfl ?_
          intro W12 H_
          replace HS : St W M W12 [blk g3 [.int .i64 rows, .int .i64 cols, .slice A cs.length c] 46, blk g1 [.int .i64 rows, .int .i64 cols, .slice A cs.length c] 46, row A cs.length c (cf actD cs) 58 2] := H_
          clear H_
          refine ql (.bool false) (by kernel_rfl) (by kernel_rfl) ?_
          refine wpList_nil ?_
          refine x_then ?_
          refine wp_ret ?_
          refine x_thenR ?_
          refine ret_ (.tuple #[.agg #[.int .i64 rows, .int .i64 cols, .slice A cs.length c], .bool false]) (res2 rfl (oneRes_agg (p := ⟨g3, 0, none⟩) [.int .i64 rows, .int .i64 cols, .slice A cs.length c] (by kernel_rfl) (by kernel_rfl) (by kernel_rfl) (by kernel_rfl) (HS.cellsN (i := 0) rfl)) (oneRes_t (by kernel_rfl))) ?_
          replace HS := HS.drop1
          replace HS := HS.drop1
          have ha := mc_addN (cols := cols) (r := r) (c := q) hMC (.inl (by omega))
          exact ⟨A, c, cs, by rw [ha.2], HS, by rw [ha.1]; exact hMC⟩
        · skip
          refine ql (.bool false) (by kernel_rfl) (R_nbool (p := q ≥ cols) (by kernel_rfl) (hc11)) ?_
          refine ql (.bool false) (by kernel_rfl) (by kernel_rfl) ?_
          refine ql (.bool false) (by kernel_rfl) (by kernel_rfl) ?_
          refine ql (.agg #[.int .i64 rows, .int .i64 cols, .slice A cs.length c]) (by kernel_rfl) (R_loadN (p := ⟨g1, 0, none⟩) [.int .i64 rows, .int .i64 cols, .slice A cs.length c] (by kernel_rfl) (by kernel_rfl) (by kernel_rfl) (by kernel_rfl) (three_at (HS.cell (i := 1) (j := 0) rfl rfl) (HS.cell (i := 1) (j := 1) rfl rfl) (HS.cell (i := 1) (j := 2) rfl rfl))) ?_
          refine ql (.int .i64 r) (by kernel_rfl) (by kernel_rfl) ?_
          refine ql (.int .i64 q) (by kernel_rfl) (by kernel_rfl) ?_
          refine qc (f := 29) (args := #[.agg #[.int .i64 rows, .int .i64 cols, .slice A cs.length c], .int .i64 r, .int .i64 q]) (by kernel_rfl) (R_call #[.agg #[.int .i64 rows, .int .i64 cols, .slice A cs.length c], .int .i64 r, .int .i64 q] Tryd.func29 (by kernel_rfl) (by kernel_rfl) (by kernel_rfl)) ?_
          by_cases hv : (r, q) ∈ cs
          · skip
            have hdx : decide ((r, q) ∈ cs) = true := decide_eq_true hv
            refine (c6has A c cs rows cols r q _ (Rd.row HS (i := 2) rfl) (by omega)).mono ?_
            rintro e W13 ⟨rfl, H_⟩
            rw [hdx]
            refine ⟨_, rfl, ?_⟩
            replace HS : St W M W13 [blk g3 [.int .i64 0, .int .i64 0, .slice none 0 0] 46, blk g1 [.int .i64 rows, .int .i64 cols, .slice A cs.length c] 46, row A cs.length c (cf actD cs) 58 2] := HS.join (F := []) (G := []) H_
            clear H_
            refine ql (.bool true) (by kernel_rfl) (by kernel_rfl) ?_
            refine wpList_nil ?_
            refine x_then ?_
            refine wp_cond_true (by kernel_rfl) ?_
            refine wp_seq ?_
            refine wp_region_lit ?_
            refine ql (.agg #[.int .i64 rows, .int .i64 cols, .slice A cs.length c]) (by kernel_rfl) (R_loadN (p := ⟨g1, 0, none⟩) [.int .i64 rows, .int .i64 cols, .slice A cs.length c] (by kernel_rfl) (by kernel_rfl) (by kernel_rfl) (by kernel_rfl) (three_at (HS.cell (i := 1) (j := 0) rfl rfl) (HS.cell (i := 1) (j := 1) rfl rfl) (HS.cell (i := 1) (j := 2) rfl rfl))) ?_
            refine ks (v := .agg #[.int .i64 rows, .int .i64 cols, .slice A cs.length c]) HS 0 rfl (0) [.int .i64 rows, .int .i64 cols, .slice A cs.length c] (by kernel_rfl) (by kernel_rfl) (by kernel_rfl) (by kernel_rfl) (by kernel_rfl) (one_ (by kernel_rfl)) (Nat.le_of_ble_eq_true rfl) rfl ?_
            intro W14 H_
            replace HS : St W M W14 [blk g3 [.int .i64 rows, .int .i64 cols, .slice A cs.length c] 46, blk g1 [.int .i64 rows, .int .i64 cols, .slice A cs.length c] 46, row A cs.length c (cf actD cs) 58 2] := H_
            clear H_
            refine ql (.bool false) (by kernel_rfl) (by kernel_rfl) ?_
            refine wpList_nil ?_
            refine x_then ?_
            refine wp_ret ?_
            refine x_thenR ?_
            refine ret_ (.tuple #[.agg #[.int .i64 rows, .int .i64 cols, .slice A cs.length c], .bool false]) (res2 rfl (oneRes_agg (p := ⟨g3, 0, none⟩) [.int .i64 rows, .int .i64 cols, .slice A cs.length c] (by kernel_rfl) (by kernel_rfl) (by kernel_rfl) (by kernel_rfl) (HS.cellsN (i := 0) rfl)) (oneRes_t (by kernel_rfl))) ?_
            replace HS := HS.drop1
            replace HS := HS.drop1
            have ha := mc_addN (cols := cols) (r := r) (c := q) hMC (.inr hv)
            exact ⟨A, c, cs, by rw [ha.2], HS, by rw [ha.1]; exact hMC⟩
          · skip
            have hdx : decide ((r, q) ∈ cs) = false := decide_eq_false hv
            refine (c6has A c cs rows cols r q _ (Rd.row HS (i := 2) rfl) (by omega)).mono ?_
            rintro e W15 ⟨rfl, H_⟩
            rw [hdx]
            refine ⟨_, rfl, ?_⟩
            replace HS : St W M W15 [blk g3 [.int .i64 0, .int .i64 0, .slice none 0 0] 46, blk g1 [.int .i64 rows, .int .i64 cols, .slice A cs.length c] 46, row A cs.length c (cf actD cs) 58 2] := HS.join (F := []) (G := []) H_
            clear H_
            refine ql (.bool false) (by kernel_rfl) (by kernel_rfl) ?_
            refine wpList_nil ?_
            refine x_then ?_
            refine wp_cond_false (by kernel_rfl) ?_
            refine wp_skip ?_
            refine x_then ?_
            refine wp_seq ?_
            refine wp_region_lit ?_
            refine kl HS 0 [] 58 2 (by kernel_rfl) (by kernel_rfl) rfl (by decide) ?_
            intro g16 W17 H_
            replace HS : St W M W17 [row (some ⟨g16, 0, none⟩) 0 0 (cf actD ([])) 58 2, blk g3 [.int .i64 0, .int .i64 0, .slice none 0 0] 46, blk g1 [.int .i64 rows, .int .i64 cols, .slice A cs.length c] 46, row A cs.length c (cf actD cs) 58 2] := H_.cast_ (by kernel_rfl)
            clear H_
            refine ql (.slice (some ⟨g16, 0, none⟩) 0 0) (by kernel_rfl) (by kernel_rfl) ?_
            refine wpList_nil ?_
            refine x_then ?_
            refine wp_seq ?_
            refine wp_region_lit ?_
            refine ql (.slice (some ⟨g16, 0, none⟩) 0 0) (by kernel_rfl) (by kernel_rfl) ?_
            refine ql (.pointer (some ⟨g1, 2, none⟩)) (by kernel_rfl) (by kernel_rfl) ?_
            refine ql (.slice A cs.length c) (by kernel_rfl) (R_load (p := ⟨g1, 2, none⟩) (by kernel_rfl) (by kernel_rfl) (by kernel_rfl) (HS.cell (i := 2) (j := 2) rfl rfl)) ?_
            obtain ⟨xs21, xs21_⟩ : ∃ z_ : List (Int × Int), z_ = ([]) ++ cs := ⟨_, rfl⟩
            have xs21l : xs21.length = 0 + cs.length := by rw [xs21_, List.length_append] <;> (try simp only [List.length_cons, List.length_nil]) <;> omega
            refine ka1 HS 0 rfl (Src.of_row HS (i := 3) rfl (cf_one (fun _ => rfl))) [.int .i64 0, .int .i64 0] 16 xs21.length (cf actD xs21) (by omega) (by rw [xs21_, cf_app]) (by kernel_rfl) (by kernel_rfl) (by kernel_rfl) Tryd.underlying44 (by kernel_rfl) (by kernel_rfl) (by kernel_rfl) (by kernel_rfl) (by decide) (by omega) (by omega) ?_
            intro A18 c19 W20 H_
            replace HS : St W M W20 [row A18 xs21.length c19 (cf actD xs21) 58 2, blk g3 [.int .i64 0, .int .i64 0, .slice none 0 0] 46, blk g1 [.int .i64 rows, .int .i64 cols, .slice A cs.length c] 46, row A cs.length c (cf actD cs) 58 2] := H_
            clear H_
            refine ql (.slice A18 xs21.length c19) (by kernel_rfl) (by kernel_rfl) ?_
            refine wpList_nil ?_
            refine x_then ?_
            refine wp_seq ?_
            refine wp_region_lit ?_
            refine ql (.slice A18 xs21.length c19) (by kernel_rfl) (by kernel_rfl) ?_
            refine ql (.int .i64 r) (by kernel_rfl) (by kernel_rfl) ?_
            refine ql (.int .i64 q) (by kernel_rfl) (by kernel_rfl) ?_
            refine ql (.agg #[.int .i64 r, .int .i64 q]) (by kernel_rfl) (by kernel_rfl) ?_
            refine kl HS 1 [.int .i64 r, .int .i64 q] 58 2 (by kernel_rfl) (by kernel_rfl) rfl (by decide) ?_
            intro g22 W23 H_
            replace HS : St W M W23 [row (some ⟨g22, 0, none⟩) 1 1 (cf actD ([(r, q)])) 58 2, row A18 xs21.length c19 (cf actD xs21) 58 2, blk g3 [.int .i64 0, .int .i64 0, .slice none 0 0] 46, blk g1 [.int .i64 rows, .int .i64 cols, .slice A cs.length c] 46, row A cs.length c (cf actD cs) 58 2] := H_.cast_ (by kernel_rfl)
            clear H_
            obtain ⟨xs27, xs27_⟩ : ∃ z_ : List (Int × Int), z_ = xs21 ++ ([(r, q)]) := ⟨_, rfl⟩
            have xs27l : xs27.length = xs21.length + 1 := by rw [xs27_, List.length_append] <;> (try simp only [List.length_cons, List.length_nil]) <;> omega
            refine ka1 HS 1 rfl (Src.of_row HS (i := 0) rfl (cf_one (fun _ => rfl))) [.int .i64 0, .int .i64 0] 16 xs27.length (cf actD xs27) (by omega) (by rw [xs27_, cf_app]) (by kernel_rfl) (by kernel_rfl) (by kernel_rfl) Tryd.underlying44 (by kernel_rfl) (by kernel_rfl) (by kernel_rfl) (by kernel_rfl) (by decide) (by omega) (by omega) ?_
            intro A24 c25 W26 H_
            replace HS : St W M W26 [row (some ⟨g22, 0, none⟩) 1 1 (cf actD ([(r, q)])) 58 2, row A24 xs27.length c25 (cf actD xs27) 58 2, blk g3 [.int .i64 0, .int .i64 0, .slice none 0 0] 46, blk g1 [.int .i64 rows, .int .i64 cols, .slice A cs.length c] 46, row A cs.length c (cf actD cs) 58 2] := H_
            clear H_
            refine ql (.slice A24 xs27.length c25) (by kernel_rfl) (by kernel_rfl) ?_
            refine wpList_nil ?_
            refine x_then ?_
            refine wp_seq ?_
            refine wp_region_lit ?_
            refine ql (.pointer (some ⟨g1, 0, none⟩)) (by kernel_rfl) (by kernel_rfl) ?_
            refine ql (.int .i64 rows) (by kernel_rfl) (R_load (p := ⟨g1, 0, none⟩) (by kernel_rfl) (by kernel_rfl) (by kernel_rfl) (HS.cell (i := 3) (j := 0) rfl rfl)) ?_
            refine ql (.pointer (some ⟨g1, 1, none⟩)) (by kernel_rfl) (by kernel_rfl) ?_
            refine ql (.int .i64 cols) (by kernel_rfl) (R_load (p := ⟨g1, 1, none⟩) (by kernel_rfl) (by kernel_rfl) (by kernel_rfl) (HS.cell (i := 3) (j := 1) rfl rfl)) ?_
            refine ql (.slice A24 xs27.length c25) (by kernel_rfl) (by kernel_rfl) ?_
            refine ql (.agg #[.int .i64 rows, .int .i64 cols, .slice A24 xs27.length c25]) (by kernel_rfl) (by kernel_rfl) ?_
            refine ks (v := .agg #[.int .i64 rows, .int .i64 cols, .slice A24 xs27.length c25]) HS 2 rfl (0) [.int .i64 rows, .int .i64 cols, .slice A24 xs27.length c25] (by kernel_rfl) (by kernel_rfl) (by kernel_rfl) (by kernel_rfl) (by kernel_rfl) (one_ (by kernel_rfl)) (Nat.le_of_ble_eq_true rfl) rfl ?_
            intro W28 H_
            replace HS : St W M W28 [row (some ⟨g22, 0, none⟩) 1 1 (cf actD ([(r, q)])) 58 2, row A24 xs27.length c25 (cf actD xs27) 58 2, blk g3 [.int .i64 rows, .int .i64 cols, .slice A24 xs27.length c25] 46, blk g1 [.int .i64 rows, .int .i64 cols, .slice A cs.length c] 46, row A cs.length c (cf actD cs) 58 2] := H_
            clear H_
            refine ql (.bool true) (by kernel_rfl) (by kernel_rfl) ?_
            refine wpList_nil ?_
            refine x_then ?_
            refine wp_ret ?_
            refine ret_ (.tuple #[.agg #[.int .i64 rows, .int .i64 cols, .slice A24 xs27.length c25], .bool true]) (res2 rfl (oneRes_agg (p := ⟨g3, 0, none⟩) [.int .i64 rows, .int .i64 cols, .slice A24 xs27.length c25] (by kernel_rfl) (by kernel_rfl) (by kernel_rfl) (by kernel_rfl) (HS.cellsN (i := 2) rfl)) (oneRes_t (by kernel_rfl))) ?_
            replace HS : St W M W28 [row A24 xs27.length c25 (cf actD xs27) 58 2] := St.tail (F := [row (some ⟨g22, 0, none⟩) 1 1 (cf actD ([(r, q)])) 58 2, blk g3 [.int .i64 rows, .int .i64 cols, .slice A24 xs27.length c25] 46, blk g1 [.int .i64 rows, .int .i64 cols, .slice A cs.length c] 46, row A cs.length c (cf actD cs) 58 2]) (HS.perm (perm_ [0, 2, 3, 4, 1] (by kernel_rfl) rfl))
            have ha := mc_add (cols := cols) (r := r) (c := q) hMC (by omega) (by omega) (by omega) (by omega) hv
            have hq : xs27 = cs ++ [(r, q)] := by rw [xs27_, xs21_]; rfl
            exact ⟨_, _, xs27, by rw [ha.2], HS, by rw [hq]; exact ha.1⟩

set_option maxRecDepth 100000 in
set_option maxHeartbeats 1000000 in
theorem r1same (A B : Option Addr) (c c2 : Nat) (L M : List Int) (W : World) (hr : Rd W A (ci .i64 L)) (hl : L.length ≤ 100000) (hs : Rd W B (ci .i64 M)) (hl2 : M.length ≤ 100000) : Calls Tryd.prog 31 #[.slice A L.length c, .slice B M.length c2] W fun e W' => e = .returned (.bool (decide (L = M))) ∧ St W (owns []) W' [] := by
  have HS : St W (owns []) W [] := St.start W _
  refine calls_enter [.slice A L.length c, .slice B M.length c2, undef, undef, undef, undef, undef, undef, undef, undef, undef, undef, undef, undef, undef, undef, undef, undef, undef, undef, undef, undef, undef, undef, undef, undef] Tryd.func31 rfl (by kernel_rfl) ?_
  refine wp_seq ?_
  refine wp_region_lit ?_
  refine ql (.bool false) (by kernel_rfl) (by kernel_rfl) ?_
  refine wpList_nil ?_
  refine x_then ?_
  refine wp_seq ?_
  refine wp_seq ?_
  refine wp_region_lit ?_
  refine ql (.slice A L.length c) (by kernel_rfl) (by kernel_rfl) ?_
  refine ql (.int .i64 (L.length : Int)) (by kernel_rfl) (by kernel_rfl) ?_
  refine ql (.slice B M.length c2) (by kernel_rfl) (by kernel_rfl) ?_
  refine ql (.int .i64 (M.length : Int)) (by kernel_rfl) (by kernel_rfl) ?_
  by_cases hc1 : (L.length : Int) = (M.length : Int)
  · skip
    refine ql (.bool false) (by kernel_rfl) (R_beq (b := ((L.length : Int) != (M.length : Int))) (by kernel_rfl) (bne_f (hc1))) ?_
    refine wpList_nil ?_
    refine x_then ?_
    refine wp_cond_false (by kernel_rfl) ?_
    refine wp_skip ?_
    refine x_then ?_
    refine wp_seq ?_
    refine wp_seq ?_
    refine wp_region_lit ?_
    refine ql (.int .i64 0) (by kernel_rfl) (by kernel_rfl) ?_
    refine wpList_nil ?_
    refine x_then ?_
    refine wp_block ?_
    refine wp_loop_ghost (fun kq a' w' => ∃ (J2 : Nat → Value) (k : Int) , a' = Fr [.slice A L.length c, .slice B M.length c2, undef, undef, (J2 4), .int .i64 k, .slice A L.length c, .int .i64 (L.length : Int), .slice B M.length c2, .int .i64 (M.length : Int), .bool false, (J2 11), (J2 12), (J2 13), (J2 14), (J2 15), (J2 16), (J2 17), (J2 18), (J2 19), (J2 20), (J2 21), (J2 22), (J2 23), (J2 24), (J2 25)] ∧ kq = (((L.length : Int)).toNat - (k).toNat) ∧ (0 ≤ k) ∧ (k ≤ L.length) ∧ (eqTo L M k) ∧ St W (owns []) w' []) (((L.length : Int)).toNat - ((0 : Int)).toNat) ⟨(fun k_ : Nat => List.getD [.slice A L.length c, .slice B M.length c2, undef, undef, .bool false, .int .i64 0, .slice A L.length c, .int .i64 (L.length : Int), .slice B M.length c2, .int .i64 (M.length : Int), .bool false, undef, undef, undef, undef, undef, undef, undef, undef, undef, undef, undef, undef, undef, undef, undef] k_ undef), (0 : Int), congrArg Fr (by kernel_rfl), rfl, by omega, by omega, eqTo_zero, HS⟩ ?_
    clear HS
    intro kq3 a' W4 hrel
    obtain ⟨J2, k, rfl, hk, k0, k1, he, HS⟩ := hrel
    refine wp_seq ?_
    refine wp_seq ?_
    refine wp_region_lit ?_
    refine ql (.int .i64 k) (by kernel_rfl) (by kernel_rfl) ?_
    refine ql (.slice A L.length c) (by kernel_rfl) (by kernel_rfl) ?_
    refine ql (.int .i64 (L.length : Int)) (by kernel_rfl) (by kernel_rfl) ?_
    by_cases hc5 : k < (L.length : Int)
    · skip
      refine ql (.bool true) (by kernel_rfl) (R_bool (p := k < (L.length : Int)) (by kernel_rfl) (hc5)) ?_
      refine wpList_nil ?_
      refine x_then ?_
      refine wp_cond_true (by kernel_rfl) ?_
      refine wp_skip ?_
      refine x_then ?_
      refine wp_seq ?_
      refine wp_block ?_
      refine wp_seq ?_
      refine rg_still HS 8 (by kernel_rfl) (by kernel_rfl) ?_
      intro W6 H_ HK_
      simp only [List.take_succ_cons, List.take_zero, List.drop_succ_cons, List.drop_zero]
      replace HS : St W (owns []) W6 [] := H_
      clear H_
      clear HK_
      refine qs (.slice A L.length c) (by kernel_rfl) (by kernel_rfl) ?_
      refine qs (.int .i64 k) (by kernel_rfl) (by kernel_rfl) ?_
      obtain ⟨ad7, rfl⟩ := Rd.isSome_ hr (by rw [ci_len]; omega)
      refine qs (.pointer (some (ad7.add k.toNat))) (by kernel_rfl) (R_indexA1 (k := .i64) (p := ad7) (n := L.length) (c := c) (i := k) (by kernel_rfl) (by kernel_rfl) Tryd.underlying38 (by kernel_rfl) (by omega) (by omega)) ?_
      refine qs (.int .i64 (rdI L k)) (by kernel_rfl) (R_load (p := ad7.add k.toNat) (by kernel_rfl) (by kernel_rfl) (by kernel_rfl) (HS.old0 (hr.at_ (ci_rd (i := k) (by omega) (by omega))))) ?_
      refine qs (.slice B M.length c2) (by kernel_rfl) (by kernel_rfl) ?_
      refine qs (.int .i64 k) (by kernel_rfl) (by kernel_rfl) ?_
      obtain ⟨ad8, rfl⟩ := Rd.isSome_ hs (by rw [ci_len]; omega)
      refine qs (.pointer (some (ad8.add k.toNat))) (by kernel_rfl) (R_indexA1 (k := .i64) (p := ad8) (n := M.length) (c := c2) (i := k) (by kernel_rfl) (by kernel_rfl) Tryd.underlying38 (by kernel_rfl) (by omega) (by omega)) ?_
      refine qs (.int .i64 (rdI M k)) (by kernel_rfl) (R_load (p := ad8.add k.toNat) (by kernel_rfl) (by kernel_rfl) (by kernel_rfl) (HS.old0 (hs.at_ (ci_rd (i := k) (by omega) (by omega))))) ?_
      refine wpStill_nil ?_
      by_cases hc9 : (rdI L k) = (rdI M k)
      · skip
        refine ql (.bool false) (by kernel_rfl) (R_beq (b := (rdI L k != rdI M k)) (by kernel_rfl) (bne_f (hc9))) ?_
        refine wpList_nil ?_
        refine x_then ?_
        refine wp_cond_false (by kernel_rfl) ?_
        refine wp_skip ?_
        refine x_inb ?_
        refine x_then ?_
        refine wp_region_lit ?_
        refine ql (.int .i64 k) (by kernel_rfl) (by kernel_rfl) ?_
        refine ql (.int .i64 (k + 1)) (by kernel_rfl) (R_int (by kernel_rfl) (w64 (by omega))) ?_
        refine ql (.int .i64 (k + 1)) (by kernel_rfl) (by kernel_rfl) ?_
        refine wpList_nil ?_
        refine x_then ?_
        exact ⟨((L.length : Int)).toNat - (k + 1).toNat, by omega, (fun k_ : Nat => List.getD [.slice (some ad7) L.length c, .slice (some ad8) M.length c2, undef, undef, (J2 4), .int .i64 (k + 1), .slice (some ad7) L.length c, .int .i64 (L.length : Int), .slice (some ad8) M.length c2, .int .i64 (M.length : Int), .bool false, .int .i64 k, .slice (some ad7) L.length c, .int .i64 (L.length : Int), .bool true, .int .i64 k, .int .i64 (k + 1), .slice (some ad7) L.length c, .int .i64 k, .pointer (some (ad7.add k.toNat)), .int .i64 (rdI L k), .slice (some ad8) M.length c2, .int .i64 k, .pointer (some (ad8.add k.toNat)), .int .i64 (rdI M k), .bool false] k_ undef), k + 1, congrArg Fr (by kernel_rfl), rfl, by omega, by omega, eqTo_step he (by first | assumption | omega), HS⟩
      · skip
        refine ql (.bool true) (by kernel_rfl) (R_beq (b := (rdI L k != rdI M k)) (by kernel_rfl) (bne_t (hc9))) ?_
        refine wpList_nil ?_
        refine x_then ?_
        refine wp_cond_true (by kernel_rfl) ?_
        refine wp_seq ?_
        refine wp_region_lit ?_
        refine ql (.bool false) (by kernel_rfl) (by kernel_rfl) ?_
        refine wpList_nil ?_
        refine x_then ?_
        refine wp_ret ?_
        refine x_inbR ?_
        refine x_thenR ?_
        refine x_thenR ?_
        refine x_inbR ?_
        refine x_thenR ?_
        refine ret_ (.bool false) (by kernel_rfl) ?_
        exact ⟨by rw [decide_eq_false (by intro h_; subst h_; omega)], HS⟩
    · skip
      refine ql (.bool false) (by kernel_rfl) (R_nbool (p := k < (L.length : Int)) (by kernel_rfl) (hc5)) ?_
      refine wpList_nil ?_
      refine x_then ?_
      refine wp_cond_false (by kernel_rfl) ?_
      refine wp_exit ?_
      refine x_thenE ?_
      refine x_thenE ?_
      refine x_hit ?_
      refine x_then ?_
      refine wp_seq ?_
      refine wp_region_lit ?_
      refine ql (.bool true) (by kernel_rfl) (by kernel_rfl) ?_
      refine wpList_nil ?_
      refine x_then ?_
      refine wp_ret ?_
      refine ret_ (.bool true) (by kernel_rfl) ?_
      have hk9 : k = L.length := by omega
      rw [hk9] at he
      have hq := eqTo_all (by omega) he
      exact ⟨by rw [decide_eq_true hq], HS⟩
  · skip
    refine ql (.bool true) (by kernel_rfl) (R_beq (b := ((L.length : Int) != (M.length : Int))) (by kernel_rfl) (bne_t (hc1))) ?_
    refine wpList_nil ?_
    refine x_then ?_
    refine wp_cond_true (by kernel_rfl) ?_
    refine wp_seq ?_
    refine wp_region_lit ?_
    refine ql (.bool false) (by kernel_rfl) (by kernel_rfl) ?_
    refine wpList_nil ?_
    refine x_then ?_
    refine wp_ret ?_
    refine x_thenR ?_
    refine ret_ (.bool false) (by kernel_rfl) ?_
    exact ⟨by rw [decide_eq_false (by intro h_; subst h_; omega)], HS⟩


set_option maxRecDepth 100000 in
set_option maxHeartbeats 1000000 in
theorem c6or (A : Option Addr) (c : Nat) (cs : List (Int × Int)) (rows cols : Int) (Ls : List (List Int)) (r o : Int) (W : World) (M : Nat → Prop) (HS : St W M W [row A cs.length c (cf actD cs) 58 2]) (hMC : MC cs Ls) (hS : Srt Ls cols) (hlen : (Ls.length : Int) = rows) (h0 : 0 ≤ cols) (h1 : cols ≤ 200) (h3 : rows ≤ 200) : Calls Tryd.prog 53 #[.agg #[.int .i64 rows, .int .i64 cols, .slice A cs.length c], .int .i64 r, .int .i64 o] W fun e W' => ∃ A' c' cs', e = .returned (.tuple #[.agg #[.int .i64 rows, .int .i64 cols, .slice A' cs'.length c'], .bool (orMB Ls r o)]) ∧ St W M W' [row A' cs'.length c' (cf actD cs') 58 2] ∧ MC cs' (orM Ls r o) := by
  have hcs := hMC.cnt
  have hcb := cnt_srt hS h0
  have hlo : (rowL Ls o).length ≤ cols.toNat := srt_len hS h0
  have hmul : cols.toNat * Ls.length ≤ 40000 := Nat.mul_le_mul (by omega : cols.toNat ≤ 200) (by omega : Ls.length ≤ 200)
  refine calls_enter [.agg #[.int .i64 rows, .int .i64 cols, .slice A cs.length c], .int .i64 r, .int .i64 o, undef, undef, undef, undef, undef, undef, undef, undef, undef, undef, undef, undef, undef, undef, undef, undef, undef, undef, undef, undef, undef, undef, undef, undef, undef, undef, undef, undef, undef, undef, undef, undef, undef, undef, undef, undef] Tryd.func53 rfl (by kernel_rfl) ?_
  refine wp_seq ?_
  refine wp_region_lit ?_
  refine kb HS [.int .i64 rows, .int .i64 cols, .slice A cs.length c] 46 (fun g => .pointer (some ⟨g, 0, none⟩)) (by kernel_rfl) (by kernel_rfl) ?_
  intro g1 W2 H_
  replace HS : St W M W2 [blk g1 [.int .i64 rows, .int .i64 cols, .slice A cs.length c] 46, row A cs.length c (cf actD cs) 58 2] := H_
  clear H_
  refine kb HS [.int .i64 0, .int .i64 0, .slice none 0 0] 46 (fun g => .pointer (some ⟨g, 0, none⟩)) (by kernel_rfl) (by kernel_rfl) ?_
  intro g3 W4 H_
  replace HS : St W M W4 [blk g3 [.int .i64 0, .int .i64 0, .slice none 0 0] 46, blk g1 [.int .i64 rows, .int .i64 cols, .slice A cs.length c] 46, row A cs.length c (cf actD cs) 58 2] := H_
  clear H_
  refine ql (.bool false) (by kernel_rfl) (by kernel_rfl) ?_
  refine wpList_nil ?_
  refine x_then ?_
  refine wp_seq ?_
  refine wp_region_lit ?_
  refine ql (.agg #[.int .i64 rows, .int .i64 cols, .slice A cs.length c]) (by kernel_rfl) (R_loadN (p := ⟨g1, 0, none⟩) [.int .i64 rows, .int .i64 cols, .slice A cs.length c] (by kernel_rfl) (by kernel_rfl) (by kernel_rfl) (by kernel_rfl) (three_at (HS.cell (i := 1) (j := 0) rfl rfl) (HS.cell (i := 1) (j := 1) rfl rfl) (HS.cell (i := 1) (j := 2) rfl rfl))) ?_
  refine ql (.int .i64 o) (by kernel_rfl) (by kernel_rfl) ?_
  refine qc (f := 33) (args := #[.agg #[.int .i64 rows, .int .i64 cols, .slice A cs.length c], .int .i64 o]) (by kernel_rfl) (R_call #[.agg #[.int .i64 rows, .int .i64 cols, .slice A cs.length c], .int .i64 o] Tryd.func33 (by kernel_rfl) (by kernel_rfl) (by kernel_rfl)) ?_
  refine (c6row A c cs rows cols o _ (Rd.row HS (i := 2) rfl) (by omega) h0 (by omega)).mono ?_
  rintro e W7 ⟨A5, c6, rfl, H_⟩
  rw [hMC.row hS] at H_
  rw [hMC.row hS]
  refine ⟨_, rfl, ?_⟩
  replace HS : St W M W7 [row A5 ((rowL Ls o).length) c6 (ci .i64 (rowL Ls o)) 3 1, blk g3 [.int .i64 0, .int .i64 0, .slice none 0 0] 46, blk g1 [.int .i64 rows, .int .i64 cols, .slice A cs.length c] 46, row A cs.length c (cf actD cs) 58 2] := HS.join (F := []) (G := [row A5 ((rowL Ls o).length) c6 (ci .i64 (rowL Ls o)) 3 1]) H_
  clear H_
  refine ql (.slice A5 ((rowL Ls o).length) c6) (by kernel_rfl) (by kernel_rfl) ?_
  refine wpList_nil ?_
  refine x_then ?_
  refine wp_seq ?_
  refine wp_region_lit ?_
  refine ql (.bool false) (by kernel_rfl) (by kernel_rfl) ?_
  refine wpList_nil ?_
  refine x_then ?_
  refine wp_seq ?_
  refine wp_seq ?_
  refine wp_region_lit ?_
  refine ql (.int .i64 0) (by kernel_rfl) (by kernel_rfl) ?_
  refine wpList_nil ?_
  refine x_then ?_
  refine wp_block ?_
  refine wp_loop_ghost (fun kq a' w' => ∃ (J8 : Nat → Value) (k : Int) (ch : Bool) (cq : List (Int × Int)) (Aq : Option Addr) (cp5 : Nat) , a' = Fr [.agg #[.int .i64 rows, .int .i64 cols, .slice A cs.length c], .int .i64 r, .int .i64 o, .pointer (some ⟨g1, 0, none⟩), undef, undef, .pointer (some ⟨g3, 0, none⟩), .bool false, .slice A5 ((rowL Ls o).length) c6, .bool ch, .int .i64 k, (J8 11), (J8 12), .agg #[.int .i64 rows, .int .i64 cols, .slice A cs.length c], .int .i64 o, .slice A5 ((rowL Ls o).length) c6, (J8 16), (J8 17), (J8 18), (J8 19), (J8 20), (J8 21), (J8 22), (J8 23), (J8 24), (J8 25), (J8 26), (J8 27), (J8 28), (J8 29), (J8 30), (J8 31), (J8 32), (J8 33), (J8 34), (J8 35), (J8 36), undef, undef] ∧ kq = ((((rowL Ls o).length : Int)).toNat - (k).toNat) ∧ (0 ≤ k) ∧ (k ≤ (rowL Ls o).length) ∧ (ch = orTB Ls r ((rowL Ls o).take (k).toNat)) ∧ (MC cq (orT Ls r ((rowL Ls o).take (k).toNat))) ∧ St W M w' [row A5 ((rowL Ls o).length) c6 (ci .i64 (rowL Ls o)) 3 1, blk g3 [.int .i64 0, .int .i64 0, .slice none 0 0] 46, blk g1 [.int .i64 rows, .int .i64 cols, .slice Aq cq.length cp5] 46, row Aq cq.length cp5 (cf actD cq) 58 2]) ((((rowL Ls o).length : Int)).toNat - ((0 : Int)).toNat) ⟨(fun k_ : Nat => List.getD [.agg #[.int .i64 rows, .int .i64 cols, .slice A cs.length c], .int .i64 r, .int .i64 o, .pointer (some ⟨g1, 0, none⟩), undef, undef, .pointer (some ⟨g3, 0, none⟩), .bool false, .slice A5 ((rowL Ls o).length) c6, .bool false, .int .i64 0, undef, undef, .agg #[.int .i64 rows, .int .i64 cols, .slice A cs.length c], .int .i64 o, .slice A5 ((rowL Ls o).length) c6, undef, undef, undef, undef, undef, undef, undef, undef, undef, undef, undef, undef, undef, undef, undef, undef, undef, undef, undef, undef, undef, undef, undef] k_ undef), (0 : Int), false, cs, A, c, congrArg Fr (by kernel_rfl), rfl, by omega, by omega, (orT_nil Ls r).2.symm, (by rw [show (rowL Ls o).take (0 : Int).toNat = [] from rfl, (orT_nil Ls r).1]; exact hMC), HS⟩ ?_
  clear HS
  intro kq9 a' W10 hrel
  obtain ⟨J8, k, ch, cq, Aq, cp5, rfl, hk, k0, k1, hch, hMq, HS⟩ := hrel
  have hcq := hMq.cnt
  have hcb2 : cntL (orT Ls r ((rowL Ls o).take (k).toNat)) ≤ 40000 := by
    have hsq : Srt (orT Ls r ((rowL Ls o).take (k).toNat)) cols := srt_orT hS (fun x hx => (hS o).2 x (List.mem_of_mem_take hx))
    have h9 := cnt_srt hsq h0; rw [orT_len] at h9; omega
  refine wp_seq ?_
  refine wp_seq ?_
  refine wp_region_lit ?_
  refine ql (.int .i64 k) (by kernel_rfl) (by kernel_rfl) ?_
  refine ql (.slice A5 ((rowL Ls o).length) c6) (by kernel_rfl) (by kernel_rfl) ?_
  refine ql (.int .i64 ((rowL Ls o).length : Int)) (by kernel_rfl) (by kernel_rfl) ?_
  by_cases hc11 : k < ((rowL Ls o).length : Int)
  · skip
    refine ql (.bool true) (by kernel_rfl) (R_bool (p := k < ((rowL Ls o).length : Int)) (by kernel_rfl) (hc11)) ?_
    refine wpList_nil ?_
    refine x_then ?_
    refine wp_cond_true (by kernel_rfl) ?_
    refine wp_skip ?_
    refine x_then ?_
    refine wp_seq ?_
    refine wp_block ?_
    refine wp_seq ?_
    have st9 := orT_step (Ls := Ls) (r := r) (hS o).1 (hS o).2 k0 (by omega : k < (rowL Ls o).length)
    refine t_start HS (fun k_ => (row Aq cq.length cp5 (cf actD cq) 58 2).own k_) 13 (by kernel_rfl) rfl ?_
    intro W12 H_ HD_
    clear HD_
    replace HS : St W M W12 [row A5 ((rowL Ls o).length) c6 (ci .i64 (rowL Ls o)) 3 1, blk g3 [.int .i64 0, .int .i64 0, .slice none 0 0] 46, blk g1 [.int .i64 rows, .int .i64 cols, .slice Aq cq.length cp5] 46, row Aq cq.length cp5 (cf actD cq) 58 2] := H_
    clear H_
    have HV := HS
    have HK := Kpt.refl (fun k_ => (row Aq cq.length cp5 (cf actD cq) 58 2).own k_) W12
    refine t_q (n := 12) 0 (.agg #[.int .i64 rows, .int .i64 cols, .slice Aq cq.length cp5]) rfl (by kernel_rfl) (by kernel_rfl) (fun _ _ _ h => h) (fun w' hk => (R_loadN (p := ⟨g1, 0, none⟩) [.int .i64 rows, .int .i64 cols, .slice Aq cq.length cp5] (by kernel_rfl) (by kernel_rfl) (by kernel_rfl) (by kernel_rfl) (three_at (hk.cellN (HV.sepB (a := 2) (b := 3) (by decide) rfl rfl) (HV.cell (i := 2) (j := 0) rfl rfl)) (hk.cellN (HV.sepB (a := 2) (b := 3) (by decide) rfl rfl) (HV.cell (i := 2) (j := 1) rfl rfl)) (hk.cellN (HV.sepB (a := 2) (b := 3) (by decide) rfl rfl) (HV.cell (i := 2) (j := 2) rfl rfl))))) HK ?_
    refine t_q (n := 11) 1 (.int .i64 r) rfl (by kernel_rfl) (by kernel_rfl) (fun _ _ _ h => h) (fun w' hk => (by kernel_rfl)) HK ?_
    refine t_q (n := 10) 2 (.slice A5 ((rowL Ls o).length) c6) rfl (by kernel_rfl) (by kernel_rfl) (fun _ _ _ h => h) (fun w' hk => (by kernel_rfl)) HK ?_
    refine t_q (n := 9) 3 (.int .i64 k) rfl (by kernel_rfl) (by kernel_rfl) (fun _ _ _ h => h) (fun w' hk => (by kernel_rfl)) HK ?_
    obtain ⟨g13, rfl⟩ := St.rsome HS (i := 0) rfl (by omega)
    refine t_q (n := 8) 4 (.pointer (some ⟨g13, k.toNat, none⟩)) rfl (by kernel_rfl) (by kernel_rfl) (fun _ _ _ h => h) (fun w' hk => (R_index1 (k := .i64) (g := g13) (n := ((rowL Ls o).length)) (c := c6) (i := k) (by kernel_rfl) (by kernel_rfl) Tryd.underlying38 (by kernel_rfl) (by omega) (by omega))) HK ?_
    refine t_q (n := 7) 5 (.int .i64 (rdI (rowL Ls o) k)) rfl (by kernel_rfl) (by kernel_rfl) (fun _ _ _ h => h) (fun w' hk => (R_load (p := ⟨g13, k.toNat, none⟩) (by kernel_rfl) (by kernel_rfl) (by kernel_rfl) (hk.cellN (HV.sepR (a := 0) (b := 3) (by decide) rfl rfl) (HV.rcell (i := 0) rfl (ci_rd (i := k) (by omega) (by omega)))))) HK ?_
    refine t_pick2 (n := 6) 6 10 (by kernel_rfl) ?_ ?_
    · skip
      refine t_c2 (n := 6) 6 (f := 52) (args := #[.agg #[.int .i64 rows, .int .i64 cols, .slice Aq cq.length cp5], .int .i64 r, .int .i64 (rdI (rowL Ls o) k)]) rfl (by kernel_rfl) (R_call #[.agg #[.int .i64 rows, .int .i64 cols, .slice Aq cq.length cp5], .int .i64 r, .int .i64 (rdI (rowL Ls o) k)] Tryd.func52 (by kernel_rfl) (by kernel_rfl) (by kernel_rfl)) ?_
      replace HS : St W M W12 [row Aq cq.length cp5 (cf actD cq) 58 2, row (some ⟨g13, 0, none⟩) ((rowL Ls o).length) c6 (ci .i64 (rowL Ls o)) 3 1, blk g3 [.int .i64 0, .int .i64 0, .slice none 0 0] 46, blk g1 [.int .i64 rows, .int .i64 cols, .slice Aq cq.length cp5] 46] := HS.perm (perm_ [3, 0, 1, 2] (by kernel_rfl) rfl)
      refine (c6add Aq cp5 cq rows cols (orT Ls r ((rowL Ls o).take (k).toNat)) r (rdI (rowL Ls o) k) _ _ (St.focus (F := [row Aq cq.length cp5 (cf actD cq) 58 2]) HS) (by omega) hMq (by rw [orT_len]; exact hlen)).mono ?_
      rintro e W17 ⟨A14, c15, cq16, rfl, H_, hMn⟩
      have hkf_ : ∀ k_, owns [row Aq cq.length cp5 (cf actD cq) 58 2] k_ → (row Aq cq.length cp5 (cf actD cq) 58 2).own k_ := by
        intro k_ h_; obtain ⟨e_, he_, ho_⟩ := h_; simp only [List.mem_cons, List.not_mem_nil, or_false] at he_; rcases he_ with rfl <;> first | exact ho_
      refine ⟨_, rfl, HK.trans H_.kept (fun _ h_ => .inl (hkf_ _ h_)), ?_⟩
      replace HK := HK.trans H_.kept (fun _ h_ => .inl (hkf_ _ h_))
      replace HS : St W M W17 [row A14 cq16.length c15 (cf actD cq16) 58 2, row (some ⟨g13, 0, none⟩) ((rowL Ls o).length) c6 (ci .i64 (rowL Ls o)) 3 1, blk g3 [.int .i64 0, .int .i64 0, .slice none 0 0] 46, blk g1 [.int .i64 rows, .int .i64 cols, .slice Aq cq.length cp5] 46] := HS.join (F := [row Aq cq.length cp5 (cf actD cq) 58 2]) (G := [row A14 cq16.length c15 (cf actD cq16) 58 2]) H_
      clear H_
      refine t_q (n := 5) 7 (.tuple #[.agg #[.int .i64 rows, .int .i64 cols, .slice A14 cq16.length c15], .bool (addMB (orT Ls r ((rowL Ls o).take (k).toNat)) cols r (rdI (rowL Ls o) k))]) rfl (by kernel_rfl) (by kernel_rfl) (fun _ _ _ h => h) (fun w' hk => (by kernel_rfl)) HK ?_
      refine t_q (n := 4) 8 (.agg #[.int .i64 rows, .int .i64 cols, .slice A14 cq16.length c15]) rfl (by kernel_rfl) (by kernel_rfl) (fun _ _ _ h => h) (fun w' hk => (by kernel_rfl)) HK ?_
      refine t_q (n := 3) 9 (.bool (addMB (orT Ls r ((rowL Ls o).take (k).toNat)) cols r (rdI (rowL Ls o) k))) rfl (by kernel_rfl) (by kernel_rfl) (fun _ _ _ h => h) (fun w' hk => (by kernel_rfl)) HK ?_
      obtain ⟨g18, W19, hg_, hw_, H_, hk_⟩ := ex_blk HS [.int .i64 0, .int .i64 0, .slice none 0 0] 46
      have hv_g18 := Nat.le_trans HK.size (Nat.le_of_eq (Eq.symm hg_))
      refine t_e (n := 2) 10 (.pointer (some ⟨g18, 0, none⟩)) rfl (by kernel_rfl) (by kernel_rfl) (by subst hg_; subst hw_; kernel_rfl) (HK.tr hk_) ?_
      replace HK := HK.tr hk_
      clear hk_
      clear hg_ hw_
      replace HS : St W M W19 [blk g18 [.int .i64 0, .int .i64 0, .slice none 0 0] 46, row A14 cq16.length c15 (cf actD cq16) 58 2, row (some ⟨g13, 0, none⟩) ((rowL Ls o).length) c6 (ci .i64 (rowL Ls o)) 3 1, blk g3 [.int .i64 0, .int .i64 0, .slice none 0 0] 46, blk g1 [.int .i64 rows, .int .i64 cols, .slice Aq cq.length cp5] 46] := H_
      clear H_
      obtain ⟨W20, hrun_, H_, hk_⟩ := ex_ks (P := Tryd.prog) (ty := 0) (ps := "ref.go:61") (af := #[{ on := 10, ground := Go.Ground.data }, { on := 8, ground := Go.Ground.data }, { on := 6, ground := Go.Ground.chain }, { on := 0, ground := Go.Ground.phase }, { on := 1, ground := Go.Ground.phase }, { on := 2, ground := Go.Ground.phase }, { on := 3, ground := Go.Ground.phase }, { on := 4, ground := Go.Ground.phase }, { on := 5, ground := Go.Ground.phase }, { on := 6, ground := Go.Ground.phase }, { on := 7, ground := Go.Ground.phase }, { on := 8, ground := Go.Ground.phase }, { on := 9, ground := (Go.Ground.textOnly Go.Departure.lateStores) }, { on := 10, ground := Go.Ground.phase }]) (gd := none) (t := 46) (x := (Go.Operand.tmp 11)) (y := (Go.Operand.tmp 30)) (v := .agg #[.int .i64 rows, .int .i64 cols, .slice A14 cq16.length c15]) HS 0 rfl (0) [.int .i64 rows, .int .i64 cols, .slice A14 cq16.length c15] (by kernel_rfl) (by kernel_rfl) (by kernel_rfl) (by kernel_rfl) (one_ (by kernel_rfl)) (Nat.le_of_ble_eq_true rfl)
      replace HK := HK.trans hk_ (fun _ h_ => .inr (Nat.le_trans hv_g18 (Nat.le_of_eq (Eq.symm h_))))
      refine t_s (n := 1) 11 rfl (by kernel_rfl) (by kernel_rfl) hrun_ HK ?_
      clear hk_ hrun_
      replace HS : St W M W20 [blk g18 [.int .i64 rows, .int .i64 cols, .slice A14 cq16.length c15] 46, row A14 cq16.length c15 (cf actD cq16) 58 2, row (some ⟨g13, 0, none⟩) ((rowL Ls o).length) c6 (ci .i64 (rowL Ls o)) 3 1, blk g3 [.int .i64 0, .int .i64 0, .slice none 0 0] 46, blk g1 [.int .i64 rows, .int .i64 cols, .slice Aq cq.length cp5] 46] := H_
      clear H_
      refine t_q (n := 0) 12 (.bool (addMB (orT Ls r ((rowL Ls o).take (k).toNat)) cols r (rdI (rowL Ls o) k))) rfl (by kernel_rfl) (by kernel_rfl) (fun _ _ _ h => h) (fun w' hk => (by kernel_rfl)) HK ?_
      refine t_done (by kernel_rfl) ?_
      clear HV HK
      refine x_then ?_
      refine wp_seq ?_
      refine wp_region_lit ?_
      refine ql (.agg #[.int .i64 rows, .int .i64 cols, .slice A14 cq16.length c15]) (by kernel_rfl) (R_loadN (p := ⟨g18, 0, none⟩) [.int .i64 rows, .int .i64 cols, .slice A14 cq16.length c15] (by kernel_rfl) (by kernel_rfl) (by kernel_rfl) (by kernel_rfl) (three_at (HS.cell (i := 0) (j := 0) rfl rfl) (HS.cell (i := 0) (j := 1) rfl rfl) (HS.cell (i := 0) (j := 2) rfl rfl))) ?_
      refine ks (v := .agg #[.int .i64 rows, .int .i64 cols, .slice A14 cq16.length c15]) HS 4 rfl (0) [.int .i64 rows, .int .i64 cols, .slice A14 cq16.length c15] (by kernel_rfl) (by kernel_rfl) (by kernel_rfl) (by kernel_rfl) (by kernel_rfl) (one_ (by kernel_rfl)) (Nat.le_of_ble_eq_true rfl) rfl ?_
      intro W21 H_
      replace HS : St W M W21 [blk g18 [.int .i64 rows, .int .i64 cols, .slice A14 cq16.length c15] 46, row A14 cq16.length c15 (cf actD cq16) 58 2, row (some ⟨g13, 0, none⟩) ((rowL Ls o).length) c6 (ci .i64 (rowL Ls o)) 3 1, blk g3 [.int .i64 0, .int .i64 0, .slice none 0 0] 46, blk g1 [.int .i64 rows, .int .i64 cols, .slice A14 cq16.length c15] 46] := H_
      clear H_
      refine wpList_nil ?_
      refine x_then ?_
      refine wp_region_lit ?_
      refine ql (.bool ch) (by kernel_rfl) (by kernel_rfl) ?_
      refine ql (.bool ch) (by kernel_rfl) (by kernel_rfl) ?_
      by_cases hb22 : ch = true
      · skip
        subst hb22
        refine qln (by kernel_rfl) ?_
        refine ql (.bool true) (by kernel_rfl) (by kernel_rfl) ?_
        refine ql (.bool true) (by kernel_rfl) (by kernel_rfl) ?_
        refine wpList_nil ?_
        refine x_inb ?_
        refine x_then ?_
        refine wp_region_lit ?_
        refine ql (.int .i64 k) (by kernel_rfl) (by kernel_rfl) ?_
        refine ql (.int .i64 (k + 1)) (by kernel_rfl) (R_int (by kernel_rfl) (w64 (by omega))) ?_
        refine ql (.int .i64 (k + 1)) (by kernel_rfl) (by kernel_rfl) ?_
        refine wpList_nil ?_
        replace HS : St W M W21 [row (some ⟨g13, 0, none⟩) ((rowL Ls o).length) c6 (ci .i64 (rowL Ls o)) 3 1, blk g3 [.int .i64 0, .int .i64 0, .slice none 0 0] 46, blk g1 [.int .i64 rows, .int .i64 cols, .slice A14 cq16.length c15] 46, row A14 cq16.length c15 (cf actD cq16) 58 2] := St.tail (F := [blk g18 [.int .i64 rows, .int .i64 cols, .slice A14 cq16.length c15] 46]) (HS.perm (perm_ [0, 2, 3, 4, 1] (by kernel_rfl) rfl))
        refine x_then ?_
        exact ⟨(((rowL Ls o).length : Int)).toNat - (k + 1).toNat, by omega, (fun k_ : Nat => List.getD [.agg #[.int .i64 rows, .int .i64 cols, .slice A cs.length c], .int .i64 r, .int .i64 o, .pointer (some ⟨g1, 0, none⟩), undef, undef, .pointer (some ⟨g3, 0, none⟩), .bool false, .slice (some ⟨g13, 0, none⟩) ((rowL Ls o).length) c6, .bool true, .int .i64 (k + 1), .pointer (some ⟨g18, 0, none⟩), .bool (addMB (orT Ls r ((rowL Ls o).take (k).toNat)) cols r (rdI (rowL Ls o) k)), .agg #[.int .i64 rows, .int .i64 cols, .slice A cs.length c], .int .i64 o, .slice (some ⟨g13, 0, none⟩) ((rowL Ls o).length) c6, .int .i64 k, .slice (some ⟨g13, 0, none⟩) ((rowL Ls o).length) c6, .int .i64 ((rowL Ls o).length : Int), .bool true, .int .i64 k, .int .i64 (k + 1), .tuple #[.agg #[.int .i64 rows, .int .i64 cols, .slice A14 cq16.length c15], .bool (addMB (orT Ls r ((rowL Ls o).take (k).toNat)) cols r (rdI (rowL Ls o) k))], .agg #[.int .i64 rows, .int .i64 cols, .slice Aq cq.length cp5], .int .i64 r, .slice (some ⟨g13, 0, none⟩) ((rowL Ls o).length) c6, .int .i64 k, .pointer (some ⟨g13, k.toNat, none⟩), .int .i64 (rdI (rowL Ls o) k), .tuple #[.agg #[.int .i64 rows, .int .i64 cols, .slice A14 cq16.length c15], .bool (addMB (orT Ls r ((rowL Ls o).take (k).toNat)) cols r (rdI (rowL Ls o) k))], .agg #[.int .i64 rows, .int .i64 cols, .slice A14 cq16.length c15], .bool (addMB (orT Ls r ((rowL Ls o).take (k).toNat)) cols r (rdI (rowL Ls o) k)), .agg #[.int .i64 rows, .int .i64 cols, .slice A14 cq16.length c15], .bool true, .bool true, undef, .bool true, undef, undef] k_ undef), k + 1, true, cq16, A14, c15, congrArg Fr (by kernel_rfl), rfl, by omega, by omega, (by have h_ := st9.2; rw [← hch] at h_; first | (rw [Bool.true_or] at h_; exact h_) | (rw [Bool.false_or] at h_; exact h_)), (st9.1 ▸ hMn), HS⟩
      · skip
        replace hb22 := Bool.eq_false_iff.2 hb22
        subst hb22
        refine ql (.bool (addMB (orT Ls r ((rowL Ls o).take (k).toNat)) cols r (rdI (rowL Ls o) k))) (by kernel_rfl) (by kernel_rfl) ?_
        refine ql (.bool (addMB (orT Ls r ((rowL Ls o).take (k).toNat)) cols r (rdI (rowL Ls o) k))) (by kernel_rfl) (by kernel_rfl) ?_
        refine ql (.bool (addMB (orT Ls r ((rowL Ls o).take (k).toNat)) cols r (rdI (rowL Ls o) k))) (by kernel_rfl) (by kernel_rfl) ?_
        refine wpList_nil ?_
        refine x_inb ?_
        refine x_then ?_
        refine wp_region_lit ?_
        refine ql (.int .i64 k) (by kernel_rfl) (by kernel_rfl) ?_
        refine ql (.int .i64 (k + 1)) (by kernel_rfl) (R_int (by kernel_rfl) (w64 (by omega))) ?_
        refine ql (.int .i64 (k + 1)) (by kernel_rfl) (by kernel_rfl) ?_
        refine wpList_nil ?_
        replace HS : St W M W21 [row (some ⟨g13, 0, none⟩) ((rowL Ls o).length) c6 (ci .i64 (rowL Ls o)) 3 1, blk g3 [.int .i64 0, .int .i64 0, .slice none 0 0] 46, blk g1 [.int .i64 rows, .int .i64 cols, .slice A14 cq16.length c15] 46, row A14 cq16.length c15 (cf actD cq16) 58 2] := St.tail (F := [blk g18 [.int .i64 rows, .int .i64 cols, .slice A14 cq16.length c15] 46]) (HS.perm (perm_ [0, 2, 3, 4, 1] (by kernel_rfl) rfl))
        refine x_then ?_
        exact ⟨(((rowL Ls o).length : Int)).toNat - (k + 1).toNat, by omega, (fun k_ : Nat => List.getD [.agg #[.int .i64 rows, .int .i64 cols, .slice A cs.length c], .int .i64 r, .int .i64 o, .pointer (some ⟨g1, 0, none⟩), undef, undef, .pointer (some ⟨g3, 0, none⟩), .bool false, .slice (some ⟨g13, 0, none⟩) ((rowL Ls o).length) c6, .bool (addMB (orT Ls r ((rowL Ls o).take (k).toNat)) cols r (rdI (rowL Ls o) k)), .int .i64 (k + 1), .pointer (some ⟨g18, 0, none⟩), .bool (addMB (orT Ls r ((rowL Ls o).take (k).toNat)) cols r (rdI (rowL Ls o) k)), .agg #[.int .i64 rows, .int .i64 cols, .slice A cs.length c], .int .i64 o, .slice (some ⟨g13, 0, none⟩) ((rowL Ls o).length) c6, .int .i64 k, .slice (some ⟨g13, 0, none⟩) ((rowL Ls o).length) c6, .int .i64 ((rowL Ls o).length : Int), .bool true, .int .i64 k, .int .i64 (k + 1), .tuple #[.agg #[.int .i64 rows, .int .i64 cols, .slice A14 cq16.length c15], .bool (addMB (orT Ls r ((rowL Ls o).take (k).toNat)) cols r (rdI (rowL Ls o) k))], .agg #[.int .i64 rows, .int .i64 cols, .slice Aq cq.length cp5], .int .i64 r, .slice (some ⟨g13, 0, none⟩) ((rowL Ls o).length) c6, .int .i64 k, .pointer (some ⟨g13, k.toNat, none⟩), .int .i64 (rdI (rowL Ls o) k), .tuple #[.agg #[.int .i64 rows, .int .i64 cols, .slice A14 cq16.length c15], .bool (addMB (orT Ls r ((rowL Ls o).take (k).toNat)) cols r (rdI (rowL Ls o) k))], .agg #[.int .i64 rows, .int .i64 cols, .slice A14 cq16.length c15], .bool (addMB (orT Ls r ((rowL Ls o).take (k).toNat)) cols r (rdI (rowL Ls o) k)), .agg #[.int .i64 rows, .int .i64 cols, .slice A14 cq16.length c15], .bool false, .bool false, .bool (addMB (orT Ls r ((rowL Ls o).take (k).toNat)) cols r (rdI (rowL Ls o) k)), .bool (addMB (orT Ls r ((rowL Ls o).take (k).toNat)) cols r (rdI (rowL Ls o) k)), undef, undef] k_ undef), k + 1, (addMB (orT Ls r ((rowL Ls o).take (k).toNat)) cols r (rdI (rowL Ls o) k)), cq16, A14, c15, congrArg Fr (by kernel_rfl), rfl, by omega, by omega, (by have h_ := st9.2; rw [← hch] at h_; first | (rw [Bool.true_or] at h_; exact h_) | (rw [Bool.false_or] at h_; exact h_)), (st9.1 ▸ hMn), HS⟩
    · skip
      obtain ⟨g23, W24, hg_, hw_, H_, hk_⟩ := ex_blk HS [.int .i64 0, .int .i64 0, .slice none 0 0] 46
      have hv_g23 := Nat.le_trans HK.size (Nat.le_of_eq (Eq.symm hg_))
      refine t_e2 (n := 6) 10 (.pointer (some ⟨g23, 0, none⟩)) rfl (by kernel_rfl) (by subst hg_; subst hw_; kernel_rfl) (HK.tr hk_) ?_
      replace HK := HK.tr hk_
      clear hk_
      clear hg_ hw_
      replace HS : St W M W24 [blk g23 [.int .i64 0, .int .i64 0, .slice none 0 0] 46, row (some ⟨g13, 0, none⟩) ((rowL Ls o).length) c6 (ci .i64 (rowL Ls o)) 3 1, blk g3 [.int .i64 0, .int .i64 0, .slice none 0 0] 46, blk g1 [.int .i64 rows, .int .i64 cols, .slice Aq cq.length cp5] 46, row Aq cq.length cp5 (cf actD cq) 58 2] := H_
      clear H_
      refine t_c (n := 5) 6 (f := 52) (args := #[.agg #[.int .i64 rows, .int .i64 cols, .slice Aq cq.length cp5], .int .i64 r, .int .i64 (rdI (rowL Ls o) k)]) rfl (by kernel_rfl) (by kernel_rfl) (R_call #[.agg #[.int .i64 rows, .int .i64 cols, .slice Aq cq.length cp5], .int .i64 r, .int .i64 (rdI (rowL Ls o) k)] Tryd.func52 (by kernel_rfl) (by kernel_rfl) (by kernel_rfl)) ?_
      replace HS : St W M W24 [row Aq cq.length cp5 (cf actD cq) 58 2, blk g23 [.int .i64 0, .int .i64 0, .slice none 0 0] 46, row (some ⟨g13, 0, none⟩) ((rowL Ls o).length) c6 (ci .i64 (rowL Ls o)) 3 1, blk g3 [.int .i64 0, .int .i64 0, .slice none 0 0] 46, blk g1 [.int .i64 rows, .int .i64 cols, .slice Aq cq.length cp5] 46] := HS.perm (perm_ [4, 0, 1, 2, 3] (by kernel_rfl) rfl)
      refine (c6add Aq cp5 cq rows cols (orT Ls r ((rowL Ls o).take (k).toNat)) r (rdI (rowL Ls o) k) _ _ (St.focus (F := [row Aq cq.length cp5 (cf actD cq) 58 2]) HS) (by omega) hMq (by rw [orT_len]; exact hlen)).mono ?_
      rintro e W28 ⟨A25, c26, cq27, rfl, H_, hMn⟩
      have hkf_ : ∀ k_, owns [row Aq cq.length cp5 (cf actD cq) 58 2] k_ → (row Aq cq.length cp5 (cf actD cq) 58 2).own k_ := by
        intro k_ h_; obtain ⟨e_, he_, ho_⟩ := h_; simp only [List.mem_cons, List.not_mem_nil, or_false] at he_; rcases he_ with rfl <;> first | exact ho_
      refine ⟨_, rfl, HK.trans H_.kept (fun _ h_ => .inl (hkf_ _ h_)), ?_⟩
      replace HK := HK.trans H_.kept (fun _ h_ => .inl (hkf_ _ h_))
      replace HS : St W M W28 [row A25 cq27.length c26 (cf actD cq27) 58 2, blk g23 [.int .i64 0, .int .i64 0, .slice none 0 0] 46, row (some ⟨g13, 0, none⟩) ((rowL Ls o).length) c6 (ci .i64 (rowL Ls o)) 3 1, blk g3 [.int .i64 0, .int .i64 0, .slice none 0 0] 46, blk g1 [.int .i64 rows, .int .i64 cols, .slice Aq cq.length cp5] 46] := HS.join (F := [row Aq cq.length cp5 (cf actD cq) 58 2]) (G := [row A25 cq27.length c26 (cf actD cq27) 58 2]) H_
      clear H_
      refine t_q (n := 4) 7 (.tuple #[.agg #[.int .i64 rows, .int .i64 cols, .slice A25 cq27.length c26], .bool (addMB (orT Ls r ((rowL Ls o).take (k).toNat)) cols r (rdI (rowL Ls o) k))]) rfl (by kernel_rfl) (by kernel_rfl) (fun _ _ _ h => h) (fun w' hk => (by kernel_rfl)) HK ?_
      refine t_q (n := 3) 8 (.agg #[.int .i64 rows, .int .i64 cols, .slice A25 cq27.length c26]) rfl (by kernel_rfl) (by kernel_rfl) (fun _ _ _ h => h) (fun w' hk => (by kernel_rfl)) HK ?_
      refine t_q (n := 2) 9 (.bool (addMB (orT Ls r ((rowL Ls o).take (k).toNat)) cols r (rdI (rowL Ls o) k))) rfl (by kernel_rfl) (by kernel_rfl) (fun _ _ _ h => h) (fun w' hk => (by kernel_rfl)) HK ?_
      obtain ⟨W29, hrun_, H_, hk_⟩ := ex_ks (P := Tryd.prog) (ty := 0) (ps := "ref.go:61") (af := #[{ on := 10, ground := Go.Ground.data }, { on := 8, ground := Go.Ground.data }, { on := 6, ground := Go.Ground.chain }, { on := 0, ground := Go.Ground.phase }, { on := 1, ground := Go.Ground.phase }, { on := 2, ground := Go.Ground.phase }, { on := 3, ground := Go.Ground.phase }, { on := 4, ground := Go.Ground.phase }, { on := 5, ground := Go.Ground.phase }, { on := 6, ground := Go.Ground.phase }, { on := 7, ground := Go.Ground.phase }, { on := 8, ground := Go.Ground.phase }, { on := 9, ground := (Go.Ground.textOnly Go.Departure.lateStores) }, { on := 10, ground := Go.Ground.phase }]) (gd := none) (t := 46) (x := (Go.Operand.tmp 11)) (y := (Go.Operand.tmp 30)) (v := .agg #[.int .i64 rows, .int .i64 cols, .slice A25 cq27.length c26]) HS 1 rfl (0) [.int .i64 rows, .int .i64 cols, .slice A25 cq27.length c26] (by kernel_rfl) (by kernel_rfl) (by kernel_rfl) (by kernel_rfl) (one_ (by kernel_rfl)) (Nat.le_of_ble_eq_true rfl)
      replace HK := HK.trans hk_ (fun _ h_ => .inr (Nat.le_trans hv_g23 (Nat.le_of_eq (Eq.symm h_))))
      refine t_s (n := 1) 11 rfl (by kernel_rfl) (by kernel_rfl) hrun_ HK ?_
      clear hk_ hrun_
      replace HS : St W M W29 [row A25 cq27.length c26 (cf actD cq27) 58 2, blk g23 [.int .i64 rows, .int .i64 cols, .slice A25 cq27.length c26] 46, row (some ⟨g13, 0, none⟩) ((rowL Ls o).length) c6 (ci .i64 (rowL Ls o)) 3 1, blk g3 [.int .i64 0, .int .i64 0, .slice none 0 0] 46, blk g1 [.int .i64 rows, .int .i64 cols, .slice Aq cq.length cp5] 46] := H_
      clear H_
      refine t_q (n := 0) 12 (.bool (addMB (orT Ls r ((rowL Ls o).take (k).toNat)) cols r (rdI (rowL Ls o) k))) rfl (by kernel_rfl) (by kernel_rfl) (fun _ _ _ h => h) (fun w' hk => (by kernel_rfl)) HK ?_
      refine t_done (by kernel_rfl) ?_
      clear HV HK
      refine x_then ?_
      refine wp_seq ?_
      refine wp_region_lit ?_
      refine ql (.agg #[.int .i64 rows, .int .i64 cols, .slice A25 cq27.length c26]) (by kernel_rfl) (R_loadN (p := ⟨g23, 0, none⟩) [.int .i64 rows, .int .i64 cols, .slice A25 cq27.length c26] (by kernel_rfl) (by kernel_rfl) (by kernel_rfl) (by kernel_rfl) (three_at (HS.cell (i := 1) (j := 0) rfl rfl) (HS.cell (i := 1) (j := 1) rfl rfl) (HS.cell (i := 1) (j := 2) rfl rfl))) ?_
      refine ks (v := .agg #[.int .i64 rows, .int .i64 cols, .slice A25 cq27.length c26]) HS 4 rfl (0) [.int .i64 rows, .int .i64 cols, .slice A25 cq27.length c26] (by kernel_rfl) (by kernel_rfl) (by kernel_rfl) (by kernel_rfl) (by kernel_rfl) (one_ (by kernel_rfl)) (Nat.le_of_ble_eq_true rfl) rfl ?_
      intro W30 H_
      replace HS : St W M W30 [row A25 cq27.length c26 (cf actD cq27) 58 2, blk g23 [.int .i64 rows, .int .i64 cols, .slice A25 cq27.length c26] 46, row (some ⟨g13, 0, none⟩) ((rowL Ls o).length) c6 (ci .i64 (rowL Ls o)) 3 1, blk g3 [.int .i64 0, .int .i64 0, .slice none 0 0] 46, blk g1 [.int .i64 rows, .int .i64 cols, .slice A25 cq27.length c26] 46] := H_
      clear H_
      refine wpList_nil ?_
      refine x_then ?_
      refine wp_region_lit ?_
      refine ql (.bool ch) (by kernel_rfl) (by kernel_rfl) ?_
      refine ql (.bool ch) (by kernel_rfl) (by kernel_rfl) ?_
      by_cases hb31 : ch = true
      · skip
        subst hb31
        refine qln (by kernel_rfl) ?_
        refine ql (.bool true) (by kernel_rfl) (by kernel_rfl) ?_
        refine ql (.bool true) (by kernel_rfl) (by kernel_rfl) ?_
        refine wpList_nil ?_
        refine x_inb ?_
        refine x_then ?_
        refine wp_region_lit ?_
        refine ql (.int .i64 k) (by kernel_rfl) (by kernel_rfl) ?_
        refine ql (.int .i64 (k + 1)) (by kernel_rfl) (R_int (by kernel_rfl) (w64 (by omega))) ?_
        refine ql (.int .i64 (k + 1)) (by kernel_rfl) (by kernel_rfl) ?_
        refine wpList_nil ?_
        replace HS : St W M W30 [row (some ⟨g13, 0, none⟩) ((rowL Ls o).length) c6 (ci .i64 (rowL Ls o)) 3 1, blk g3 [.int .i64 0, .int .i64 0, .slice none 0 0] 46, blk g1 [.int .i64 rows, .int .i64 cols, .slice A25 cq27.length c26] 46, row A25 cq27.length c26 (cf actD cq27) 58 2] := St.tail (F := [blk g23 [.int .i64 rows, .int .i64 cols, .slice A25 cq27.length c26] 46]) (HS.perm (perm_ [1, 2, 3, 4, 0] (by kernel_rfl) rfl))
        refine x_then ?_
        exact ⟨(((rowL Ls o).length : Int)).toNat - (k + 1).toNat, by omega, (fun k_ : Nat => List.getD [.agg #[.int .i64 rows, .int .i64 cols, .slice A cs.length c], .int .i64 r, .int .i64 o, .pointer (some ⟨g1, 0, none⟩), undef, undef, .pointer (some ⟨g3, 0, none⟩), .bool false, .slice (some ⟨g13, 0, none⟩) ((rowL Ls o).length) c6, .bool true, .int .i64 (k + 1), .pointer (some ⟨g23, 0, none⟩), .bool (addMB (orT Ls r ((rowL Ls o).take (k).toNat)) cols r (rdI (rowL Ls o) k)), .agg #[.int .i64 rows, .int .i64 cols, .slice A cs.length c], .int .i64 o, .slice (some ⟨g13, 0, none⟩) ((rowL Ls o).length) c6, .int .i64 k, .slice (some ⟨g13, 0, none⟩) ((rowL Ls o).length) c6, .int .i64 ((rowL Ls o).length : Int), .bool true, .int .i64 k, .int .i64 (k + 1), .tuple #[.agg #[.int .i64 rows, .int .i64 cols, .slice A25 cq27.length c26], .bool (addMB (orT Ls r ((rowL Ls o).take (k).toNat)) cols r (rdI (rowL Ls o) k))], .agg #[.int .i64 rows, .int .i64 cols, .slice Aq cq.length cp5], .int .i64 r, .slice (some ⟨g13, 0, none⟩) ((rowL Ls o).length) c6, .int .i64 k, .pointer (some ⟨g13, k.toNat, none⟩), .int .i64 (rdI (rowL Ls o) k), .tuple #[.agg #[.int .i64 rows, .int .i64 cols, .slice A25 cq27.length c26], .bool (addMB (orT Ls r ((rowL Ls o).take (k).toNat)) cols r (rdI (rowL Ls o) k))], .agg #[.int .i64 rows, .int .i64 cols, .slice A25 cq27.length c26], .bool (addMB (orT Ls r ((rowL Ls o).take (k).toNat)) cols r (rdI (rowL Ls o) k)), .agg #[.int .i64 rows, .int .i64 cols, .slice A25 cq27.length c26], .bool true, .bool true, undef, .bool true, undef, undef] k_ undef), k + 1, true, cq27, A25, c26, congrArg Fr (by kernel_rfl), rfl, by omega, by omega, (by have h_ := st9.2; rw [← hch] at h_; first | (rw [Bool.true_or] at h_; exact h_) | (rw [Bool.false_or] at h_; exact h_)), (st9.1 ▸ hMn), HS⟩
      · skip
        replace hb31 := Bool.eq_false_iff.2 hb31
        subst hb31
        refine ql (.bool (addMB (orT Ls r ((rowL Ls o).take (k).toNat)) cols r (rdI (rowL Ls o) k))) (by kernel_rfl) (by kernel_rfl) ?_
        refine ql (.bool (addMB (orT Ls r ((rowL Ls o).take (k).toNat)) cols r (rdI (rowL Ls o) k))) (by kernel_rfl) (by kernel_rfl) ?_
        refine ql (.bool (addMB (orT Ls r ((rowL Ls o).take (k).toNat)) cols r (rdI (rowL Ls o) k))) (by kernel_rfl) (by kernel_rfl) ?_
        refine wpList_nil ?_
        refine x_inb ?_
        refine x_then ?_
        refine wp_region_lit ?_
        refine ql (.int .i64 k) (by kernel_rfl) (by kernel_rfl) ?_
        refine ql (.int .i64 (k + 1)) (by kernel_rfl) (R_int (by kernel_rfl) (w64 (by omega))) ?_
        refine ql (.int .i64 (k + 1)) (by kernel_rfl) (by kernel_rfl) ?_
        refine wpList_nil ?_
        replace HS : St W M W30 [row (some ⟨g13, 0, none⟩) ((rowL Ls o).length) c6 (ci .i64 (rowL Ls o)) 3 1, blk g3 [.int .i64 0, .int .i64 0, .slice none 0 0] 46, blk g1 [.int .i64 rows, .int .i64 cols, .slice A25 cq27.length c26] 46, row A25 cq27.length c26 (cf actD cq27) 58 2] := St.tail (F := [blk g23 [.int .i64 rows, .int .i64 cols, .slice A25 cq27.length c26] 46]) (HS.perm (perm_ [1, 2, 3, 4, 0] (by kernel_rfl) rfl))
        refine x_then ?_
        exact ⟨(((rowL Ls o).length : Int)).toNat - (k + 1).toNat, by omega, (fun k_ : Nat => List.getD [.agg #[.int .i64 rows, .int .i64 cols, .slice A cs.length c], .int .i64 r, .int .i64 o, .pointer (some ⟨g1, 0, none⟩), undef, undef, .pointer (some ⟨g3, 0, none⟩), .bool false, .slice (some ⟨g13, 0, none⟩) ((rowL Ls o).length) c6, .bool (addMB (orT Ls r ((rowL Ls o).take (k).toNat)) cols r (rdI (rowL Ls o) k)), .int .i64 (k + 1), .pointer (some ⟨g23, 0, none⟩), .bool (addMB (orT Ls r ((rowL Ls o).take (k).toNat)) cols r (rdI (rowL Ls o) k)), .agg #[.int .i64 rows, .int .i64 cols, .slice A cs.length c], .int .i64 o, .slice (some ⟨g13, 0, none⟩) ((rowL Ls o).length) c6, .int .i64 k, .slice (some ⟨g13, 0, none⟩) ((rowL Ls o).length) c6, .int .i64 ((rowL Ls o).length : Int), .bool true, .int .i64 k, .int .i64 (k + 1), .tuple #[.agg #[.int .i64 rows, .int .i64 cols, .slice A25 cq27.length c26], .bool (addMB (orT Ls r ((rowL Ls o).take (k).toNat)) cols r (rdI (rowL Ls o) k))], .agg #[.int .i64 rows, .int .i64 cols, .slice Aq cq.length cp5], .int .i64 r, .slice (some ⟨g13, 0, none⟩) ((rowL Ls o).length) c6, .int .i64 k, .pointer (some ⟨g13, k.toNat, none⟩), .int .i64 (rdI (rowL Ls o) k), .tuple #[.agg #[.int .i64 rows, .int .i64 cols, .slice A25 cq27.length c26], .bool (addMB (orT Ls r ((rowL Ls o).take (k).toNat)) cols r (rdI (rowL Ls o) k))], .agg #[.int .i64 rows, .int .i64 cols, .slice A25 cq27.length c26], .bool (addMB (orT Ls r ((rowL Ls o).take (k).toNat)) cols r (rdI (rowL Ls o) k)), .agg #[.int .i64 rows, .int .i64 cols, .slice A25 cq27.length c26], .bool false, .bool false, .bool (addMB (orT Ls r ((rowL Ls o).take (k).toNat)) cols r (rdI (rowL Ls o) k)), .bool (addMB (orT Ls r ((rowL Ls o).take (k).toNat)) cols r (rdI (rowL Ls o) k)), undef, undef] k_ undef), k + 1, (addMB (orT Ls r ((rowL Ls o).take (k).toNat)) cols r (rdI (rowL Ls o) k)), cq27, A25, c26, congrArg Fr (by kernel_rfl), rfl, by omega, by omega, (by have h_ := st9.2; rw [← hch] at h_; first | (rw [Bool.true_or] at h_; exact h_) | (rw [Bool.false_or] at h_; exact h_)), (st9.1 ▸ hMn), HS⟩
  · skip
    refine ql (.bool false) (by kernel_rfl) (R_nbool (p := k < ((rowL Ls o).length : Int)) (by kernel_rfl) (hc11)) ?_
    refine wpList_nil ?_
    refine x_then ?_
    refine wp_cond_false (by kernel_rfl) ?_
    refine wp_exit ?_
    refine x_thenE ?_
    refine x_thenE ?_
    refine x_hit ?_
    refine x_then ?_
    refine wp_seq ?_
    refine wp_region_lit ?_
    refine ql (.agg #[.int .i64 rows, .int .i64 cols, .slice Aq cq.length cp5]) (by kernel_rfl) (R_loadN (p := ⟨g1, 0, none⟩) [.int .i64 rows, .int .i64 cols, .slice Aq cq.length cp5] (by kernel_rfl) (by kernel_rfl) (by kernel_rfl) (by kernel_rfl) (three_at (HS.cell (i := 2) (j := 0) rfl rfl) (HS.cell (i := 2) (j := 1) rfl rfl) (HS.cell (i := 2) (j := 2) rfl rfl))) ?_
    refine ql (.bool ch) (by kernel_rfl) (by kernel_rfl) ?_
    refine ks (v := .agg #[.int .i64 rows, .int .i64 cols, .slice Aq cq.length cp5]) HS 1 rfl (0) [.int .i64 rows, .int .i64 cols, .slice Aq cq.length cp5] (by kernel_rfl) (by kernel_rfl) (by kernel_rfl) (by kernel_rfl) (by kernel_rfl) (one_ (by kernel_rfl)) (Nat.le_of_ble_eq_true rfl) rfl ?_
    intro W32 H_
    replace HS : St W M W32 [row A5 ((rowL Ls o).length) c6 (ci .i64 (rowL Ls o)) 3 1, blk g3 [.int .i64 rows, .int .i64 cols, .slice Aq cq.length cp5] 46, blk g1 [.int .i64 rows, .int .i64 cols, .slice Aq cq.length cp5] 46, row Aq cq.length cp5 (cf actD cq) 58 2] := H_
    clear H_
    refine ql (.bool ch) (by kernel_rfl) (by kernel_rfl) ?_
    refine wpList_nil ?_
    refine x_then ?_
    refine wp_ret ?_
    refine ret_ (.tuple #[.agg #[.int .i64 rows, .int .i64 cols, .slice Aq cq.length cp5], .bool ch]) (res2 rfl (oneRes_agg (p := ⟨g3, 0, none⟩) [.int .i64 rows, .int .i64 cols, .slice Aq cq.length cp5] (by kernel_rfl) (by kernel_rfl) (by kernel_rfl) (by kernel_rfl) (HS.cellsN (i := 1) rfl)) (oneRes_t (by kernel_rfl))) ?_
    replace HS := HS.drop1
    replace HS := HS.drop1
    replace HS := HS.drop1
    have hk9 : k = (rowL Ls o).length := by omega
    have he9 := orT_end (Ls := Ls) (r := r) hk9
    rw [he9.1] at hMq
    rw [he9.2] at hch
    subst hch
    exact ⟨_, _, cq, rfl, HS, hMq⟩


set_option maxRecDepth 100000 in
set_option maxHeartbeats 1000000 in
theorem c6close (A : Option Addr) (c : Nat) (cs : List (Int × Int)) (rows cols : Int) (Ls : List (List Int)) (W : World) (M : Nat → Prop) (HS : St W M W [row A cs.length c (cf actD cs) 58 2]) (hMC : MC cs Ls) (hS : Srt Ls cols) (hlen : (Ls.length : Int) = rows) (h0 : 0 ≤ cols) (h1 : cols ≤ 200) (h3 : rows ≤ 200) (hsq : rows = cols) : Calls Tryd.prog 54 #[.agg #[.int .i64 rows, .int .i64 cols, .slice A cs.length c]] W fun e W' => ∃ A' c' cs', e = .returned (.tuple #[.agg #[.int .i64 rows, .int .i64 cols, .slice A' cs'.length c'], .int .i64 ((cntL (clo Ls) : Int) - (cntL Ls : Int))]) ∧ St W M W' [row A' cs'.length c' (cf actD cs') 58 2] ∧ MC cs' (clo Ls) := by
  have hcs := hMC.cnt
  have hcb := cnt_srt hS h0
  have hmul : cols.toNat * Ls.length ≤ 40000 := Nat.mul_le_mul (by omega : cols.toNat ≤ 200) (by omega : Ls.length ≤ 200)
  refine calls_enter ((.agg #[.int .i64 rows, .int .i64 cols, .slice A cs.length c]) :: undef :: undef :: undef :: undef :: undef :: undef :: undef :: undef :: undef :: undef :: undef :: undef :: undef :: undef :: undef :: undef :: undef :: undef :: undef :: undef :: undef :: undef :: undef :: undef :: undef :: undef :: undef :: undef :: undef :: undef :: undef :: undef :: undef :: undef :: undef :: undef :: undef :: undef :: undef :: undef :: undef :: undef :: undef :: undef :: undef :: undef :: undef :: undef :: undef :: undef :: undef :: undef :: undef :: undef :: undef :: []) Tryd.func54 rfl (by kernel_rfl) ?_
  refine wp_seq ?_
  refine wp_region_lit ?_
  refine kb HS [.int .i64 rows, .int .i64 cols, .slice A cs.length c] 46 (fun g => .pointer (some ⟨g, 0, none⟩)) (by kernel_rfl) (by kernel_rfl) ?_
  intro g1 W2 H_
  replace HS : St W M W2 [blk g1 [.int .i64 rows, .int .i64 cols, .slice A cs.length c] 46, row A cs.length c (cf actD cs) 58 2] := H_
  clear H_
  refine kb HS [.int .i64 0, .int .i64 0, .slice none 0 0] 46 (fun g => .pointer (some ⟨g, 0, none⟩)) (by kernel_rfl) (by kernel_rfl) ?_
  intro g3 W4 H_
  replace HS : St W M W4 [blk g3 [.int .i64 0, .int .i64 0, .slice none 0 0] 46, blk g1 [.int .i64 rows, .int .i64 cols, .slice A cs.length c] 46, row A cs.length c (cf actD cs) 58 2] := H_
  clear H_
  refine ql (.int .i64 0) (by kernel_rfl) (by kernel_rfl) ?_
  refine wpList_nil ?_
  refine x_then ?_
  refine wp_seq ?_
  refine wp_region_lit ?_
  refine ql (.pointer (some ⟨g1, 2, none⟩)) (by kernel_rfl) (by kernel_rfl) ?_
  refine ql (.slice A cs.length c) (by kernel_rfl) (R_load (p := ⟨g1, 2, none⟩) (by kernel_rfl) (by kernel_rfl) (by kernel_rfl) (HS.cell (i := 1) (j := 2) rfl rfl)) ?_
  refine ql (.int .i64 (cs.length : Int)) (by kernel_rfl) (by kernel_rfl) ?_
  refine ql (.int .i64 (cs.length : Int)) (by kernel_rfl) (by kernel_rfl) ?_
  refine wpList_nil ?_
  refine x_then ?_
  refine wp_seq ?_
  refine wp_seq ?_
  refine wp_region_lit ?_
  refine ql (.pointer (some ⟨g1, 0, none⟩)) (by kernel_rfl) (by kernel_rfl) ?_
  refine ql (.int .i64 rows) (by kernel_rfl) (R_load (p := ⟨g1, 0, none⟩) (by kernel_rfl) (by kernel_rfl) (by kernel_rfl) (HS.cell (i := 1) (j := 0) rfl rfl)) ?_
  refine ql (.pointer (some ⟨g1, 1, none⟩)) (by kernel_rfl) (by kernel_rfl) ?_
  refine ql (.int .i64 cols) (by kernel_rfl) (R_load (p := ⟨g1, 1, none⟩) (by kernel_rfl) (by kernel_rfl) (by kernel_rfl) (HS.cell (i := 1) (j := 1) rfl rfl)) ?_
  refine ql (.bool true) (by kernel_rfl) (R_beq (b := (rows == cols)) (by kernel_rfl) (beq_t (by omega))) ?_
  refine ql (.bool true) (by kernel_rfl) (by kernel_rfl) ?_
  refine wpList_nil ?_
  refine x_then ?_
  refine wp_block ?_
  refine wp_loop_ghost (fun kq a' w' => ∃ (J5 : Nat → Value) (Xo : List (List Int)) (moo : Bool) (cqo : List (Int × Int)) (Aqo : Option Addr) (cpo : Nat) , a' = Fr ((.agg #[.int .i64 rows, .int .i64 cols, .slice A cs.length c]) :: (.pointer (some ⟨g1, 0, none⟩)) :: (.pointer (some ⟨g3, 0, none⟩)) :: (.int .i64 0) :: (.int .i64 (cs.length : Int)) :: (.bool moo) :: ((J5 6)) :: ((J5 7)) :: ((J5 8)) :: ((J5 9)) :: ((J5 10)) :: (.pointer (some ⟨g1, 2, none⟩)) :: (.slice A cs.length c) :: (.int .i64 (cs.length : Int)) :: (.pointer (some ⟨g1, 0, none⟩)) :: (.int .i64 rows) :: (.pointer (some ⟨g1, 1, none⟩)) :: (.int .i64 cols) :: (.bool true) :: ((J5 19)) :: ((J5 20)) :: ((J5 21)) :: ((J5 22)) :: ((J5 23)) :: ((J5 24)) :: ((J5 25)) :: ((J5 26)) :: ((J5 27)) :: ((J5 28)) :: ((J5 29)) :: ((J5 30)) :: ((J5 31)) :: ((J5 32)) :: ((J5 33)) :: ((J5 34)) :: ((J5 35)) :: ((J5 36)) :: ((J5 37)) :: ((J5 38)) :: ((J5 39)) :: ((J5 40)) :: ((J5 41)) :: ((J5 42)) :: ((J5 43)) :: ((J5 44)) :: ((J5 45)) :: ((J5 46)) :: ((J5 47)) :: ((J5 48)) :: ((J5 49)) :: undef :: undef :: undef :: undef :: undef :: undef :: []) ∧ kq = (mea Xo moo) ∧ (MC cqo Xo) ∧ (COv Ls cols Xo moo) ∧ St W M w' [blk g3 [.int .i64 0, .int .i64 0, .slice none 0 0] 46, blk g1 [.int .i64 rows, .int .i64 cols, .slice Aqo cqo.length cpo] 46, row Aqo cqo.length cpo (cf actD cqo) 58 2]) (mea Ls true) ⟨(fun k_ : Nat => List.getD ((.agg #[.int .i64 rows, .int .i64 cols, .slice A cs.length c]) :: (.pointer (some ⟨g1, 0, none⟩)) :: (.pointer (some ⟨g3, 0, none⟩)) :: (.int .i64 0) :: (.int .i64 (cs.length : Int)) :: (.bool true) :: undef :: undef :: undef :: undef :: undef :: (.pointer (some ⟨g1, 2, none⟩)) :: (.slice A cs.length c) :: (.int .i64 (cs.length : Int)) :: (.pointer (some ⟨g1, 0, none⟩)) :: (.int .i64 rows) :: (.pointer (some ⟨g1, 1, none⟩)) :: (.int .i64 cols) :: (.bool true) :: undef :: undef :: undef :: undef :: undef :: undef :: undef :: undef :: undef :: undef :: undef :: undef :: undef :: undef :: undef :: undef :: undef :: undef :: undef :: undef :: undef :: undef :: undef :: undef :: undef :: undef :: undef :: undef :: undef :: undef :: undef :: undef :: undef :: undef :: undef :: undef :: undef :: []) k_ undef), Ls, true, cs, A, c, congrArg Fr (by kernel_rfl), rfl, hMC, (COv.zero hS), HS⟩ ?_
  clear HS
  intro kq6 a' W7 hrel
  obtain ⟨J5, Xo, moo, cqo, Aqo, cpo, rfl, hk, hMo, hCo, HS⟩ := hrel
  have hno := hMo.cnt
  have hbo := hCo.start.cb h0 h1 (by omega)
  refine wp_seq ?_
  refine wp_seq ?_
  refine wp_region_lit ?_
  refine ql (.bool moo) (by kernel_rfl) (by kernel_rfl) ?_
  refine wpList_nil ?_
  refine x_then ?_
  by_cases hc8 : moo = true
  · skip
    have hmt : moo = true := hc8
    refine wp_cond_true (kb_eq (b := moo) (by kernel_rfl) hc8) ?_
    refine wp_skip ?_
    refine x_then ?_
    refine wp_block ?_
    refine wp_seq ?_
    refine wp_region_lit ?_
    refine ql (.bool false) (by kernel_rfl) (by kernel_rfl) ?_
    refine wpList_nil ?_
    refine x_then ?_
    refine wp_seq ?_
    refine wp_region_lit ?_
    refine ql (.int .i64 0) (by kernel_rfl) (by kernel_rfl) ?_
    refine wpList_nil ?_
    refine x_then ?_
    refine wp_block ?_
    refine wp_loop_ghost (fun kq a' w' => ∃ (J9 : Nat → Value) (r : Int) (Xr : List (List Int)) (mor : Bool) (cqr : List (Int × Int)) (Aqr : Option Addr) (cpr : Nat) , a' = Fr ((.agg #[.int .i64 rows, .int .i64 cols, .slice A cs.length c]) :: (.pointer (some ⟨g1, 0, none⟩)) :: (.pointer (some ⟨g3, 0, none⟩)) :: (.int .i64 0) :: (.int .i64 (cs.length : Int)) :: (.bool mor) :: (.int .i64 r) :: ((J9 7)) :: ((J9 8)) :: ((J9 9)) :: ((J9 10)) :: (.pointer (some ⟨g1, 2, none⟩)) :: (.slice A cs.length c) :: (.int .i64 (cs.length : Int)) :: (.pointer (some ⟨g1, 0, none⟩)) :: (.int .i64 rows) :: (.pointer (some ⟨g1, 1, none⟩)) :: (.int .i64 cols) :: (.bool true) :: (.bool moo) :: ((J9 20)) :: ((J9 21)) :: ((J9 22)) :: ((J9 23)) :: ((J9 24)) :: ((J9 25)) :: ((J9 26)) :: ((J9 27)) :: ((J9 28)) :: ((J9 29)) :: ((J9 30)) :: ((J9 31)) :: ((J9 32)) :: ((J9 33)) :: ((J9 34)) :: ((J9 35)) :: ((J9 36)) :: ((J9 37)) :: ((J9 38)) :: ((J9 39)) :: ((J9 40)) :: ((J9 41)) :: ((J9 42)) :: ((J9 43)) :: ((J9 44)) :: ((J9 45)) :: ((J9 46)) :: ((J9 47)) :: ((J9 48)) :: ((J9 49)) :: undef :: undef :: undef :: undef :: undef :: undef :: []) ∧ kq = (rows.toNat - (r).toNat) ∧ (0 ≤ r) ∧ (r ≤ rows) ∧ (MC cqr Xr) ∧ (CIv Ls cols Xo Xr Xr mor r []) ∧ St W M w' [blk g3 [.int .i64 0, .int .i64 0, .slice none 0 0] 46, blk g1 [.int .i64 rows, .int .i64 cols, .slice Aqr cqr.length cpr] 46, row Aqr cqr.length cpr (cf actD cqr) 58 2]) (rows.toNat - ((0 : Int)).toNat) ⟨(fun k_ : Nat => List.getD ((.agg #[.int .i64 rows, .int .i64 cols, .slice A cs.length c]) :: (.pointer (some ⟨g1, 0, none⟩)) :: (.pointer (some ⟨g3, 0, none⟩)) :: (.int .i64 0) :: (.int .i64 (cs.length : Int)) :: (.bool false) :: (.int .i64 0) :: ((J5 7)) :: ((J5 8)) :: ((J5 9)) :: ((J5 10)) :: (.pointer (some ⟨g1, 2, none⟩)) :: (.slice A cs.length c) :: (.int .i64 (cs.length : Int)) :: (.pointer (some ⟨g1, 0, none⟩)) :: (.int .i64 rows) :: (.pointer (some ⟨g1, 1, none⟩)) :: (.int .i64 cols) :: (.bool true) :: (.bool moo) :: ((J5 20)) :: ((J5 21)) :: ((J5 22)) :: ((J5 23)) :: ((J5 24)) :: ((J5 25)) :: ((J5 26)) :: ((J5 27)) :: ((J5 28)) :: ((J5 29)) :: ((J5 30)) :: ((J5 31)) :: ((J5 32)) :: ((J5 33)) :: ((J5 34)) :: ((J5 35)) :: ((J5 36)) :: ((J5 37)) :: ((J5 38)) :: ((J5 39)) :: ((J5 40)) :: ((J5 41)) :: ((J5 42)) :: ((J5 43)) :: ((J5 44)) :: ((J5 45)) :: ((J5 46)) :: ((J5 47)) :: ((J5 48)) :: ((J5 49)) :: undef :: undef :: undef :: undef :: undef :: undef :: []) k_ undef), (0 : Int), Xo, false, cqo, Aqo, cpo, congrArg Fr (by kernel_rfl), rfl, by omega, by omega, hMo, hCo.start, HS⟩ ?_
    clear HS
    intro kq10 a' W11 hrel
    obtain ⟨J9, r, Xr, mor, cqr, Aqr, cpr, rfl, hk, r0, r1, hMr, hCr, HS⟩ := hrel
    have hSr := hCr.2.1
    have hlr := hCr.1
    have hnr := hMr.cnt
    have hbr := hCr.cb h0 h1 (by omega)
    have hwr : (rowL Xr r).length ≤ cols.toNat := srt_len hSr h0
    refine wp_seq ?_
    refine wp_seq ?_
    refine wp_region_lit ?_
    refine ql (.int .i64 r) (by kernel_rfl) (by kernel_rfl) ?_
    refine ql (.pointer (some ⟨g1, 0, none⟩)) (by kernel_rfl) (by kernel_rfl) ?_
    refine ql (.int .i64 rows) (by kernel_rfl) (R_load (p := ⟨g1, 0, none⟩) (by kernel_rfl) (by kernel_rfl) (by kernel_rfl) (HS.cell (i := 1) (j := 0) rfl rfl)) ?_
    by_cases hc12 : r < rows
    · skip
      refine ql (.bool true) (by kernel_rfl) (R_bool (p := r < rows) (by kernel_rfl) (hc12)) ?_
      refine wpList_nil ?_
      refine x_then ?_
      refine wp_cond_true (by kernel_rfl) ?_
      refine wp_skip ?_
      refine x_then ?_
      refine wp_seq ?_
      refine wp_block ?_
      refine wp_seq ?_
      refine wp_region_lit ?_
      refine ql (.agg #[.int .i64 rows, .int .i64 cols, .slice Aqr cqr.length cpr]) (by kernel_rfl) (R_loadN (p := ⟨g1, 0, none⟩) [.int .i64 rows, .int .i64 cols, .slice Aqr cqr.length cpr] (by kernel_rfl) (by kernel_rfl) (by kernel_rfl) (by kernel_rfl) (three_at (HS.cell (i := 1) (j := 0) rfl rfl) (HS.cell (i := 1) (j := 1) rfl rfl) (HS.cell (i := 1) (j := 2) rfl rfl))) ?_
      refine ql (.int .i64 r) (by kernel_rfl) (by kernel_rfl) ?_
      refine qc (f := 33) (args := #[.agg #[.int .i64 rows, .int .i64 cols, .slice Aqr cqr.length cpr], .int .i64 r]) (by kernel_rfl) (R_call #[.agg #[.int .i64 rows, .int .i64 cols, .slice Aqr cqr.length cpr], .int .i64 r] Tryd.func33 (by kernel_rfl) (by kernel_rfl) (by kernel_rfl)) ?_
      refine (c6row Aqr cpr cqr rows cols r _ (Rd.row HS (i := 2) rfl) (by omega) h0 (by omega)).mono ?_
      rintro e W15 ⟨A13, c14, rfl, H_⟩
      rw [hMr.row hSr] at H_
      rw [hMr.row hSr]
      refine ⟨_, rfl, ?_⟩
      replace HS : St W M W15 [row A13 ((rowL Xr r).length) c14 (ci .i64 (rowL Xr r)) 3 1, blk g3 [.int .i64 0, .int .i64 0, .slice none 0 0] 46, blk g1 [.int .i64 rows, .int .i64 cols, .slice Aqr cqr.length cpr] 46, row Aqr cqr.length cpr (cf actD cqr) 58 2] := HS.join (F := []) (G := [row A13 ((rowL Xr r).length) c14 (ci .i64 (rowL Xr r)) 3 1]) H_
      clear H_
      refine ql (.slice A13 ((rowL Xr r).length) c14) (by kernel_rfl) (by kernel_rfl) ?_
      refine wpList_nil ?_
      refine x_then ?_
      refine wp_seq ?_
      refine wp_region_lit ?_
      refine ql (.int .i64 0) (by kernel_rfl) (by kernel_rfl) ?_
      refine wpList_nil ?_
      refine x_then ?_
      refine wp_block ?_
      refine wp_loop_ghost (fun kq a' w' => ∃ (J16 : Nat → Value) (i : Int) (Xi : List (List Int)) (moi : Bool) (cqi : List (Int × Int)) (Aqi : Option Addr) (cpi : Nat) , a' = Fr ((.agg #[.int .i64 rows, .int .i64 cols, .slice A cs.length c]) :: (.pointer (some ⟨g1, 0, none⟩)) :: (.pointer (some ⟨g3, 0, none⟩)) :: (.int .i64 0) :: (.int .i64 (cs.length : Int)) :: (.bool moi) :: (.int .i64 r) :: (.slice A13 ((rowL Xr r).length) c14) :: (.int .i64 i) :: ((J16 9)) :: ((J16 10)) :: (.pointer (some ⟨g1, 2, none⟩)) :: (.slice A cs.length c) :: (.int .i64 (cs.length : Int)) :: (.pointer (some ⟨g1, 0, none⟩)) :: (.int .i64 rows) :: (.pointer (some ⟨g1, 1, none⟩)) :: (.int .i64 cols) :: (.bool true) :: (.bool moo) :: (.int .i64 r) :: (.pointer (some ⟨g1, 0, none⟩)) :: (.int .i64 rows) :: (.bool true) :: ((J9 24)) :: ((J9 25)) :: (.agg #[.int .i64 rows, .int .i64 cols, .slice Aqr cqr.length cpr]) :: (.int .i64 r) :: (.slice A13 ((rowL Xr r).length) c14) :: ((J16 29)) :: ((J16 30)) :: ((J16 31)) :: ((J16 32)) :: ((J16 33)) :: ((J16 34)) :: ((J16 35)) :: ((J16 36)) :: ((J16 37)) :: ((J16 38)) :: ((J16 39)) :: ((J16 40)) :: ((J16 41)) :: ((J16 42)) :: ((J16 43)) :: ((J16 44)) :: ((J16 45)) :: ((J16 46)) :: ((J16 47)) :: ((J16 48)) :: ((J16 49)) :: undef :: undef :: undef :: undef :: undef :: undef :: []) ∧ kq = ((rowL Xr r).length - (i).toNat) ∧ (0 ≤ i) ∧ (i ≤ (rowL Xr r).length) ∧ (MC cqi Xi) ∧ (CIv Ls cols Xo Xr Xi moi r ((rowL Xr r).take (i).toNat)) ∧ St W M w' [row A13 ((rowL Xr r).length) c14 (ci .i64 (rowL Xr r)) 3 1, blk g3 [.int .i64 0, .int .i64 0, .slice none 0 0] 46, blk g1 [.int .i64 rows, .int .i64 cols, .slice Aqi cqi.length cpi] 46, row Aqi cqi.length cpi (cf actD cqi) 58 2]) ((rowL Xr r).length - ((0 : Int)).toNat) ⟨(fun k_ : Nat => List.getD ((.agg #[.int .i64 rows, .int .i64 cols, .slice A cs.length c]) :: (.pointer (some ⟨g1, 0, none⟩)) :: (.pointer (some ⟨g3, 0, none⟩)) :: (.int .i64 0) :: (.int .i64 (cs.length : Int)) :: (.bool mor) :: (.int .i64 r) :: (.slice A13 ((rowL Xr r).length) c14) :: (.int .i64 0) :: ((J9 9)) :: ((J9 10)) :: (.pointer (some ⟨g1, 2, none⟩)) :: (.slice A cs.length c) :: (.int .i64 (cs.length : Int)) :: (.pointer (some ⟨g1, 0, none⟩)) :: (.int .i64 rows) :: (.pointer (some ⟨g1, 1, none⟩)) :: (.int .i64 cols) :: (.bool true) :: (.bool moo) :: (.int .i64 r) :: (.pointer (some ⟨g1, 0, none⟩)) :: (.int .i64 rows) :: (.bool true) :: ((J9 24)) :: ((J9 25)) :: (.agg #[.int .i64 rows, .int .i64 cols, .slice Aqr cqr.length cpr]) :: (.int .i64 r) :: (.slice A13 ((rowL Xr r).length) c14) :: ((J9 29)) :: ((J9 30)) :: ((J9 31)) :: ((J9 32)) :: ((J9 33)) :: ((J9 34)) :: ((J9 35)) :: ((J9 36)) :: ((J9 37)) :: ((J9 38)) :: ((J9 39)) :: ((J9 40)) :: ((J9 41)) :: ((J9 42)) :: ((J9 43)) :: ((J9 44)) :: ((J9 45)) :: ((J9 46)) :: ((J9 47)) :: ((J9 48)) :: ((J9 49)) :: undef :: undef :: undef :: undef :: undef :: undef :: []) k_ undef), (0 : Int), Xr, mor, cqr, Aqr, cpr, congrArg Fr (by kernel_rfl), rfl, by omega, by omega, hMr, hCr, HS⟩ ?_
      clear HS
      intro kq17 a' W18 hrel
      obtain ⟨J16, i, Xi, moi, cqi, Aqi, cpi, rfl, hk, i0, i1, hMi, hCi, HS⟩ := hrel
      have hSi := hCi.2.1
      have hli := hCi.1
      have hni := hMi.cnt
      have hbi := hCi.cb h0 h1 (by omega)
      refine wp_seq ?_
      refine wp_seq ?_
      refine wp_region_lit ?_
      refine ql (.int .i64 i) (by kernel_rfl) (by kernel_rfl) ?_
      refine ql (.slice A13 ((rowL Xr r).length) c14) (by kernel_rfl) (by kernel_rfl) ?_
      refine ql (.int .i64 ((rowL Xr r).length : Int)) (by kernel_rfl) (by kernel_rfl) ?_
      by_cases hc19 : i < ((rowL Xr r).length : Int)
      · skip
        refine ql (.bool true) (by kernel_rfl) (R_bool (p := i < ((rowL Xr r).length : Int)) (by kernel_rfl) (hc19)) ?_
        refine wpList_nil ?_
        refine x_then ?_
        refine wp_cond_true (by kernel_rfl) ?_
        refine wp_skip ?_
        refine x_then ?_
        refine wp_seq ?_
        refine wp_block ?_
        refine wp_seq ?_
        have st9 := hCi.step i0 (by omega) r0 (by omega)
        refine t_start HS (fun k_ => (row Aqi cqi.length cpi (cf actD cqi) 58 2).own k_) 13 (by kernel_rfl) rfl ?_
        intro W20 H_ HD_
        clear HD_
        replace HS : St W M W20 [row A13 ((rowL Xr r).length) c14 (ci .i64 (rowL Xr r)) 3 1, blk g3 [.int .i64 0, .int .i64 0, .slice none 0 0] 46, blk g1 [.int .i64 rows, .int .i64 cols, .slice Aqi cqi.length cpi] 46, row Aqi cqi.length cpi (cf actD cqi) 58 2] := H_
        clear H_
        have HV := HS
        have HK := Kpt.refl (fun k_ => (row Aqi cqi.length cpi (cf actD cqi) 58 2).own k_) W20
        refine t_q (n := 12) 0 (.agg #[.int .i64 rows, .int .i64 cols, .slice Aqi cqi.length cpi]) rfl (by kernel_rfl) (by kernel_rfl) (fun _ _ _ h => h) (fun w' hk => (R_loadN (p := ⟨g1, 0, none⟩) [.int .i64 rows, .int .i64 cols, .slice Aqi cqi.length cpi] (by kernel_rfl) (by kernel_rfl) (by kernel_rfl) (by kernel_rfl) (three_at (hk.cellN (HV.sepB (a := 2) (b := 3) (by decide) rfl rfl) (HV.cell (i := 2) (j := 0) rfl rfl)) (hk.cellN (HV.sepB (a := 2) (b := 3) (by decide) rfl rfl) (HV.cell (i := 2) (j := 1) rfl rfl)) (hk.cellN (HV.sepB (a := 2) (b := 3) (by decide) rfl rfl) (HV.cell (i := 2) (j := 2) rfl rfl))))) HK ?_
        refine t_q (n := 11) 1 (.int .i64 r) rfl (by kernel_rfl) (by kernel_rfl) (fun _ _ _ h => h) (fun w' hk => (by kernel_rfl)) HK ?_
        refine t_q (n := 10) 2 (.slice A13 ((rowL Xr r).length) c14) rfl (by kernel_rfl) (by kernel_rfl) (fun _ _ _ h => h) (fun w' hk => (by kernel_rfl)) HK ?_
        refine t_q (n := 9) 3 (.int .i64 i) rfl (by kernel_rfl) (by kernel_rfl) (fun _ _ _ h => h) (fun w' hk => (by kernel_rfl)) HK ?_
        obtain ⟨g21, rfl⟩ := St.rsome HS (i := 0) rfl (by omega)
        refine t_q (n := 8) 4 (.pointer (some ⟨g21, i.toNat, none⟩)) rfl (by kernel_rfl) (by kernel_rfl) (fun _ _ _ h => h) (fun w' hk => (R_index1 (k := .i64) (g := g21) (n := ((rowL Xr r).length)) (c := c14) (i := i) (by kernel_rfl) (by kernel_rfl) Tryd.underlying38 (by kernel_rfl) (by omega) (by omega))) HK ?_
        refine t_q (n := 7) 5 (.int .i64 (rdI (rowL Xr r) i)) rfl (by kernel_rfl) (by kernel_rfl) (fun _ _ _ h => h) (fun w' hk => (R_load (p := ⟨g21, i.toNat, none⟩) (by kernel_rfl) (by kernel_rfl) (by kernel_rfl) (hk.cellN (HV.sepR (a := 0) (b := 3) (by decide) rfl rfl) (HV.rcell (i := 0) rfl (ci_rd (i := i) (by omega) (by omega)))))) HK ?_
        refine t_pick2 (n := 6) 6 10 (by kernel_rfl) ?_ ?_
        · skip
          refine t_c2 (n := 6) 6 (f := 53) (args := #[.agg #[.int .i64 rows, .int .i64 cols, .slice Aqi cqi.length cpi], .int .i64 r, .int .i64 (rdI (rowL Xr r) i)]) rfl (by kernel_rfl) (R_call #[.agg #[.int .i64 rows, .int .i64 cols, .slice Aqi cqi.length cpi], .int .i64 r, .int .i64 (rdI (rowL Xr r) i)] Tryd.func53 (by kernel_rfl) (by kernel_rfl) (by kernel_rfl)) ?_
          replace HS : St W M W20 [row Aqi cqi.length cpi (cf actD cqi) 58 2, row (some ⟨g21, 0, none⟩) ((rowL Xr r).length) c14 (ci .i64 (rowL Xr r)) 3 1, blk g3 [.int .i64 0, .int .i64 0, .slice none 0 0] 46, blk g1 [.int .i64 rows, .int .i64 cols, .slice Aqi cqi.length cpi] 46] := HS.perm (perm_ [3, 0, 1, 2] (by kernel_rfl) rfl)
          refine (c6or Aqi cpi cqi rows cols Xi r (rdI (rowL Xr r) i) _ _ (St.focus (F := [row Aqi cqi.length cpi (cf actD cqi) 58 2]) HS) hMi hSi (by omega) h0 h1 h3).mono ?_
          rintro e W25 ⟨A22, c23, cq24, rfl, H_, hMn⟩
          have hkf_ : ∀ k_, owns [row Aqi cqi.length cpi (cf actD cqi) 58 2] k_ → (row Aqi cqi.length cpi (cf actD cqi) 58 2).own k_ := by
            intro k_ h_; obtain ⟨e_, he_, ho_⟩ := h_; simp only [List.mem_cons, List.not_mem_nil, or_false] at he_; rcases he_ with rfl <;> first | exact ho_
          refine ⟨_, rfl, HK.trans H_.kept (fun _ h_ => .inl (hkf_ _ h_)), ?_⟩
          replace HK := HK.trans H_.kept (fun _ h_ => .inl (hkf_ _ h_))
          replace HS : St W M W25 [row A22 cq24.length c23 (cf actD cq24) 58 2, row (some ⟨g21, 0, none⟩) ((rowL Xr r).length) c14 (ci .i64 (rowL Xr r)) 3 1, blk g3 [.int .i64 0, .int .i64 0, .slice none 0 0] 46, blk g1 [.int .i64 rows, .int .i64 cols, .slice Aqi cqi.length cpi] 46] := HS.join (F := [row Aqi cqi.length cpi (cf actD cqi) 58 2]) (G := [row A22 cq24.length c23 (cf actD cq24) 58 2]) H_
          clear H_
          refine t_q (n := 5) 7 (.tuple #[.agg #[.int .i64 rows, .int .i64 cols, .slice A22 cq24.length c23], .bool (orMB Xi r (rdI (rowL Xr r) i))]) rfl (by kernel_rfl) (by kernel_rfl) (fun _ _ _ h => h) (fun w' hk => (by kernel_rfl)) HK ?_
          refine t_q (n := 4) 8 (.agg #[.int .i64 rows, .int .i64 cols, .slice A22 cq24.length c23]) rfl (by kernel_rfl) (by kernel_rfl) (fun _ _ _ h => h) (fun w' hk => (by kernel_rfl)) HK ?_
          refine t_q (n := 3) 9 (.bool (orMB Xi r (rdI (rowL Xr r) i))) rfl (by kernel_rfl) (by kernel_rfl) (fun _ _ _ h => h) (fun w' hk => (by kernel_rfl)) HK ?_
          obtain ⟨g26, W27, hg_, hw_, H_, hk_⟩ := ex_blk HS [.int .i64 0, .int .i64 0, .slice none 0 0] 46
          have hv_g26 := Nat.le_trans HK.size (Nat.le_of_eq (Eq.symm hg_))
          refine t_e (n := 2) 10 (.pointer (some ⟨g26, 0, none⟩)) rfl (by kernel_rfl) (by kernel_rfl) (by subst hg_; subst hw_; kernel_rfl) (HK.tr hk_) ?_
          replace HK := HK.tr hk_
          clear hk_
          clear hg_ hw_
          replace HS : St W M W27 [blk g26 [.int .i64 0, .int .i64 0, .slice none 0 0] 46, row A22 cq24.length c23 (cf actD cq24) 58 2, row (some ⟨g21, 0, none⟩) ((rowL Xr r).length) c14 (ci .i64 (rowL Xr r)) 3 1, blk g3 [.int .i64 0, .int .i64 0, .slice none 0 0] 46, blk g1 [.int .i64 rows, .int .i64 cols, .slice Aqi cqi.length cpi] 46] := H_
          clear H_
          obtain ⟨W28, hrun_, H_, hk_⟩ := ex_ks (P := Tryd.prog) (ty := 0) (ps := "ref.go:76") (af := #[{ on := 10, ground := Go.Ground.data }, { on := 8, ground := Go.Ground.data }, { on := 6, ground := Go.Ground.chain }, { on := 0, ground := Go.Ground.phase }, { on := 1, ground := Go.Ground.phase }, { on := 2, ground := Go.Ground.phase }, { on := 3, ground := Go.Ground.phase }, { on := 4, ground := Go.Ground.phase }, { on := 5, ground := Go.Ground.phase }, { on := 6, ground := Go.Ground.phase }, { on := 7, ground := Go.Ground.phase }, { on := 8, ground := Go.Ground.phase }, { on := 9, ground := (Go.Ground.textOnly Go.Departure.lateStores) }, { on := 10, ground := Go.Ground.phase }]) (gd := none) (t := 46) (x := (Go.Operand.tmp 9)) (y := (Go.Operand.tmp 43)) (v := .agg #[.int .i64 rows, .int .i64 cols, .slice A22 cq24.length c23]) HS 0 rfl (0) [.int .i64 rows, .int .i64 cols, .slice A22 cq24.length c23] (by kernel_rfl) (by kernel_rfl) (by kernel_rfl) (by kernel_rfl) (one_ (by kernel_rfl)) (Nat.le_of_ble_eq_true rfl)
          replace HK := HK.trans hk_ (fun _ h_ => .inr (Nat.le_trans hv_g26 (Nat.le_of_eq (Eq.symm h_))))
          refine t_s (n := 1) 11 rfl (by kernel_rfl) (by kernel_rfl) hrun_ HK ?_
          clear hk_ hrun_
          replace HS : St W M W28 [blk g26 [.int .i64 rows, .int .i64 cols, .slice A22 cq24.length c23] 46, row A22 cq24.length c23 (cf actD cq24) 58 2, row (some ⟨g21, 0, none⟩) ((rowL Xr r).length) c14 (ci .i64 (rowL Xr r)) 3 1, blk g3 [.int .i64 0, .int .i64 0, .slice none 0 0] 46, blk g1 [.int .i64 rows, .int .i64 cols, .slice Aqi cqi.length cpi] 46] := H_
          clear H_
          refine t_q (n := 0) 12 (.bool (orMB Xi r (rdI (rowL Xr r) i))) rfl (by kernel_rfl) (by kernel_rfl) (fun _ _ _ h => h) (fun w' hk => (by kernel_rfl)) HK ?_
          refine t_done (by kernel_rfl) ?_
          clear HV HK
          refine x_then ?_
          refine wp_seq ?_
          refine wp_region_lit ?_
          refine ql (.agg #[.int .i64 rows, .int .i64 cols, .slice A22 cq24.length c23]) (by kernel_rfl) (R_loadN (p := ⟨g26, 0, none⟩) [.int .i64 rows, .int .i64 cols, .slice A22 cq24.length c23] (by kernel_rfl) (by kernel_rfl) (by kernel_rfl) (by kernel_rfl) (three_at (HS.cell (i := 0) (j := 0) rfl rfl) (HS.cell (i := 0) (j := 1) rfl rfl) (HS.cell (i := 0) (j := 2) rfl rfl))) ?_
          refine ks (v := .agg #[.int .i64 rows, .int .i64 cols, .slice A22 cq24.length c23]) HS 4 rfl (0) [.int .i64 rows, .int .i64 cols, .slice A22 cq24.length c23] (by kernel_rfl) (by kernel_rfl) (by kernel_rfl) (by kernel_rfl) (by kernel_rfl) (one_ (by kernel_rfl)) (Nat.le_of_ble_eq_true rfl) rfl ?_
          intro W29 H_
          replace HS : St W M W29 [blk g26 [.int .i64 rows, .int .i64 cols, .slice A22 cq24.length c23] 46, row A22 cq24.length c23 (cf actD cq24) 58 2, row (some ⟨g21, 0, none⟩) ((rowL Xr r).length) c14 (ci .i64 (rowL Xr r)) 3 1, blk g3 [.int .i64 0, .int .i64 0, .slice none 0 0] 46, blk g1 [.int .i64 rows, .int .i64 cols, .slice A22 cq24.length c23] 46] := H_
          clear H_
          refine wpList_nil ?_
          refine x_then ?_
          refine wp_region_lit ?_
          refine ql (.bool moi) (by kernel_rfl) (by kernel_rfl) ?_
          refine ql (.bool moi) (by kernel_rfl) (by kernel_rfl) ?_
          by_cases hb30 : moi = true
          · skip
            subst hb30
            refine qln (by kernel_rfl) ?_
            refine ql (.bool true) (by kernel_rfl) (by kernel_rfl) ?_
            refine ql (.bool true) (by kernel_rfl) (by kernel_rfl) ?_
            refine wpList_nil ?_
            refine x_inb ?_
            refine x_then ?_
            refine wp_region_lit ?_
            refine ql (.int .i64 i) (by kernel_rfl) (by kernel_rfl) ?_
            refine ql (.int .i64 (i + 1)) (by kernel_rfl) (R_int (by kernel_rfl) (w64 (by omega))) ?_
            refine ql (.int .i64 (i + 1)) (by kernel_rfl) (by kernel_rfl) ?_
            refine wpList_nil ?_
            replace HS : St W M W29 [row (some ⟨g21, 0, none⟩) ((rowL Xr r).length) c14 (ci .i64 (rowL Xr r)) 3 1, blk g3 [.int .i64 0, .int .i64 0, .slice none 0 0] 46, blk g1 [.int .i64 rows, .int .i64 cols, .slice A22 cq24.length c23] 46, row A22 cq24.length c23 (cf actD cq24) 58 2] := St.tail (F := [blk g26 [.int .i64 rows, .int .i64 cols, .slice A22 cq24.length c23] 46]) (HS.perm (perm_ [0, 2, 3, 4, 1] (by kernel_rfl) rfl))
            refine x_then ?_
            exact ⟨(rowL Xr r).length - (i + 1).toNat, by omega, (fun k_ : Nat => List.getD ((.agg #[.int .i64 rows, .int .i64 cols, .slice A cs.length c]) :: (.pointer (some ⟨g1, 0, none⟩)) :: (.pointer (some ⟨g3, 0, none⟩)) :: (.int .i64 0) :: (.int .i64 (cs.length : Int)) :: (.bool true) :: (.int .i64 r) :: (.slice (some ⟨g21, 0, none⟩) ((rowL Xr r).length) c14) :: (.int .i64 (i + 1)) :: (.pointer (some ⟨g26, 0, none⟩)) :: (.bool (orMB Xi r (rdI (rowL Xr r) i))) :: (.pointer (some ⟨g1, 2, none⟩)) :: (.slice A cs.length c) :: (.int .i64 (cs.length : Int)) :: (.pointer (some ⟨g1, 0, none⟩)) :: (.int .i64 rows) :: (.pointer (some ⟨g1, 1, none⟩)) :: (.int .i64 cols) :: (.bool true) :: (.bool moo) :: (.int .i64 r) :: (.pointer (some ⟨g1, 0, none⟩)) :: (.int .i64 rows) :: (.bool true) :: ((J9 24)) :: ((J9 25)) :: (.agg #[.int .i64 rows, .int .i64 cols, .slice Aqr cqr.length cpr]) :: (.int .i64 r) :: (.slice (some ⟨g21, 0, none⟩) ((rowL Xr r).length) c14) :: (.int .i64 i) :: (.slice (some ⟨g21, 0, none⟩) ((rowL Xr r).length) c14) :: (.int .i64 ((rowL Xr r).length : Int)) :: (.bool true) :: (.int .i64 i) :: (.int .i64 (i + 1)) :: (.tuple #[.agg #[.int .i64 rows, .int .i64 cols, .slice A22 cq24.length c23], .bool (orMB Xi r (rdI (rowL Xr r) i))]) :: (.agg #[.int .i64 rows, .int .i64 cols, .slice Aqi cqi.length cpi]) :: (.int .i64 r) :: (.slice (some ⟨g21, 0, none⟩) ((rowL Xr r).length) c14) :: (.int .i64 i) :: (.pointer (some ⟨g21, i.toNat, none⟩)) :: (.int .i64 (rdI (rowL Xr r) i)) :: (.tuple #[.agg #[.int .i64 rows, .int .i64 cols, .slice A22 cq24.length c23], .bool (orMB Xi r (rdI (rowL Xr r) i))]) :: (.agg #[.int .i64 rows, .int .i64 cols, .slice A22 cq24.length c23]) :: (.bool (orMB Xi r (rdI (rowL Xr r) i))) :: (.agg #[.int .i64 rows, .int .i64 cols, .slice A22 cq24.length c23]) :: (.bool true) :: (.bool true) :: undef :: (.bool true) :: undef :: undef :: undef :: undef :: undef :: undef :: []) k_ undef), i + 1, (orM Xi r (rdI (rowL Xr r) i)), true, cq24, A22, c23, congrArg Fr (by kernel_rfl), rfl, by omega, by omega, hMn, (by have h_ := st9; first | (rw [Bool.true_or] at h_; exact h_) | (rw [Bool.false_or] at h_; exact h_)), HS⟩
          · skip
            replace hb30 := Bool.eq_false_iff.2 hb30
            subst hb30
            refine ql (.bool (orMB Xi r (rdI (rowL Xr r) i))) (by kernel_rfl) (by kernel_rfl) ?_
            refine ql (.bool (orMB Xi r (rdI (rowL Xr r) i))) (by kernel_rfl) (by kernel_rfl) ?_
            refine ql (.bool (orMB Xi r (rdI (rowL Xr r) i))) (by kernel_rfl) (by kernel_rfl) ?_
            refine wpList_nil ?_
            refine x_inb ?_
            refine x_then ?_
            refine wp_region_lit ?_
            refine ql (.int .i64 i) (by kernel_rfl) (by kernel_rfl) ?_
            refine ql (.int .i64 (i + 1)) (by kernel_rfl) (R_int (by kernel_rfl) (w64 (by omega))) ?_
            refine ql (.int .i64 (i + 1)) (by kernel_rfl) (by kernel_rfl) ?_
            refine wpList_nil ?_
            replace HS : St W M W29 [row (some ⟨g21, 0, none⟩) ((rowL Xr r).length) c14 (ci .i64 (rowL Xr r)) 3 1, blk g3 [.int .i64 0, .int .i64 0, .slice none 0 0] 46, blk g1 [.int .i64 rows, .int .i64 cols, .slice A22 cq24.length c23] 46, row A22 cq24.length c23 (cf actD cq24) 58 2] := St.tail (F := [blk g26 [.int .i64 rows, .int .i64 cols, .slice A22 cq24.length c23] 46]) (HS.perm (perm_ [0, 2, 3, 4, 1] (by kernel_rfl) rfl))
            refine x_then ?_
            exact ⟨(rowL Xr r).length - (i + 1).toNat, by omega, (fun k_ : Nat => List.getD ((.agg #[.int .i64 rows, .int .i64 cols, .slice A cs.length c]) :: (.pointer (some ⟨g1, 0, none⟩)) :: (.pointer (some ⟨g3, 0, none⟩)) :: (.int .i64 0) :: (.int .i64 (cs.length : Int)) :: (.bool (orMB Xi r (rdI (rowL Xr r) i))) :: (.int .i64 r) :: (.slice (some ⟨g21, 0, none⟩) ((rowL Xr r).length) c14) :: (.int .i64 (i + 1)) :: (.pointer (some ⟨g26, 0, none⟩)) :: (.bool (orMB Xi r (rdI (rowL Xr r) i))) :: (.pointer (some ⟨g1, 2, none⟩)) :: (.slice A cs.length c) :: (.int .i64 (cs.length : Int)) :: (.pointer (some ⟨g1, 0, none⟩)) :: (.int .i64 rows) :: (.pointer (some ⟨g1, 1, none⟩)) :: (.int .i64 cols) :: (.bool true) :: (.bool moo) :: (.int .i64 r) :: (.pointer (some ⟨g1, 0, none⟩)) :: (.int .i64 rows) :: (.bool true) :: ((J9 24)) :: ((J9 25)) :: (.agg #[.int .i64 rows, .int .i64 cols, .slice Aqr cqr.length cpr]) :: (.int .i64 r) :: (.slice (some ⟨g21, 0, none⟩) ((rowL Xr r).length) c14) :: (.int .i64 i) :: (.slice (some ⟨g21, 0, none⟩) ((rowL Xr r).length) c14) :: (.int .i64 ((rowL Xr r).length : Int)) :: (.bool true) :: (.int .i64 i) :: (.int .i64 (i + 1)) :: (.tuple #[.agg #[.int .i64 rows, .int .i64 cols, .slice A22 cq24.length c23], .bool (orMB Xi r (rdI (rowL Xr r) i))]) :: (.agg #[.int .i64 rows, .int .i64 cols, .slice Aqi cqi.length cpi]) :: (.int .i64 r) :: (.slice (some ⟨g21, 0, none⟩) ((rowL Xr r).length) c14) :: (.int .i64 i) :: (.pointer (some ⟨g21, i.toNat, none⟩)) :: (.int .i64 (rdI (rowL Xr r) i)) :: (.tuple #[.agg #[.int .i64 rows, .int .i64 cols, .slice A22 cq24.length c23], .bool (orMB Xi r (rdI (rowL Xr r) i))]) :: (.agg #[.int .i64 rows, .int .i64 cols, .slice A22 cq24.length c23]) :: (.bool (orMB Xi r (rdI (rowL Xr r) i))) :: (.agg #[.int .i64 rows, .int .i64 cols, .slice A22 cq24.length c23]) :: (.bool false) :: (.bool false) :: (.bool (orMB Xi r (rdI (rowL Xr r) i))) :: (.bool (orMB Xi r (rdI (rowL Xr r) i))) :: undef :: undef :: undef :: undef :: undef :: undef :: []) k_ undef), i + 1, (orM Xi r (rdI (rowL Xr r) i)), (orMB Xi r (rdI (rowL Xr r) i)), cq24, A22, c23, congrArg Fr (by kernel_rfl), rfl, by omega, by omega, hMn, (by have h_ := st9; first | (rw [Bool.true_or] at h_; exact h_) | (rw [Bool.false_or] at h_; exact h_)), HS⟩
        · skip
          obtain ⟨g31, W32, hg_, hw_, H_, hk_⟩ := ex_blk HS [.int .i64 0, .int .i64 0, .slice none 0 0] 46
          have hv_g31 := Nat.le_trans HK.size (Nat.le_of_eq (Eq.symm hg_))
          refine t_e2 (n := 6) 10 (.pointer (some ⟨g31, 0, none⟩)) rfl (by kernel_rfl) (by subst hg_; subst hw_; kernel_rfl) (HK.tr hk_) ?_
          replace HK := HK.tr hk_
          clear hk_
          clear hg_ hw_
          replace HS : St W M W32 [blk g31 [.int .i64 0, .int .i64 0, .slice none 0 0] 46, row (some ⟨g21, 0, none⟩) ((rowL Xr r).length) c14 (ci .i64 (rowL Xr r)) 3 1, blk g3 [.int .i64 0, .int .i64 0, .slice none 0 0] 46, blk g1 [.int .i64 rows, .int .i64 cols, .slice Aqi cqi.length cpi] 46, row Aqi cqi.length cpi (cf actD cqi) 58 2] := H_
          clear H_
          refine t_c (n := 5) 6 (f := 53) (args := #[.agg #[.int .i64 rows, .int .i64 cols, .slice Aqi cqi.length cpi], .int .i64 r, .int .i64 (rdI (rowL Xr r) i)]) rfl (by kernel_rfl) (by kernel_rfl) (R_call #[.agg #[.int .i64 rows, .int .i64 cols, .slice Aqi cqi.length cpi], .int .i64 r, .int .i64 (rdI (rowL Xr r) i)] Tryd.func53 (by kernel_rfl) (by kernel_rfl) (by kernel_rfl)) ?_
          replace HS : St W M W32 [row Aqi cqi.length cpi (cf actD cqi) 58 2, blk g31 [.int .i64 0, .int .i64 0, .slice none 0 0] 46, row (some ⟨g21, 0, none⟩) ((rowL Xr r).length) c14 (ci .i64 (rowL Xr r)) 3 1, blk g3 [.int .i64 0, .int .i64 0, .slice none 0 0] 46, blk g1 [.int .i64 rows, .int .i64 cols, .slice Aqi cqi.length cpi] 46] := HS.perm (perm_ [4, 0, 1, 2, 3] (by kernel_rfl) rfl)
          refine (c6or Aqi cpi cqi rows cols Xi r (rdI (rowL Xr r) i) _ _ (St.focus (F := [row Aqi cqi.length cpi (cf actD cqi) 58 2]) HS) hMi hSi (by omega) h0 h1 h3).mono ?_
          rintro e W36 ⟨A33, c34, cq35, rfl, H_, hMn⟩
          have hkf_ : ∀ k_, owns [row Aqi cqi.length cpi (cf actD cqi) 58 2] k_ → (row Aqi cqi.length cpi (cf actD cqi) 58 2).own k_ := by
            intro k_ h_; obtain ⟨e_, he_, ho_⟩ := h_; simp only [List.mem_cons, List.not_mem_nil, or_false] at he_; rcases he_ with rfl <;> first | exact ho_
          refine ⟨_, rfl, HK.trans H_.kept (fun _ h_ => .inl (hkf_ _ h_)), ?_⟩
          replace HK := HK.trans H_.kept (fun _ h_ => .inl (hkf_ _ h_))
          replace HS : St W M W36 [row A33 cq35.length c34 (cf actD cq35) 58 2, blk g31 [.int .i64 0, .int .i64 0, .slice none 0 0] 46, row (some ⟨g21, 0, none⟩) ((rowL Xr r).length) c14 (ci .i64 (rowL Xr r)) 3 1, blk g3 [.int .i64 0, .int .i64 0, .slice none 0 0] 46, blk g1 [.int .i64 rows, .int .i64 cols, .slice Aqi cqi.length cpi] 46] := HS.join (F := [row Aqi cqi.length cpi (cf actD cqi) 58 2]) (G := [row A33 cq35.length c34 (cf actD cq35) 58 2]) H_
          clear H_
          refine t_q (n := 4) 7 (.tuple #[.agg #[.int .i64 rows, .int .i64 cols, .slice A33 cq35.length c34], .bool (orMB Xi r (rdI (rowL Xr r) i))]) rfl (by kernel_rfl) (by kernel_rfl) (fun _ _ _ h => h) (fun w' hk => (by kernel_rfl)) HK ?_
          refine t_q (n := 3) 8 (.agg #[.int .i64 rows, .int .i64 cols, .slice A33 cq35.length c34]) rfl (by kernel_rfl) (by kernel_rfl) (fun _ _ _ h => h) (fun w' hk => (by kernel_rfl)) HK ?_
          refine t_q (n := 2) 9 (.bool (orMB Xi r (rdI (rowL Xr r) i))) rfl (by kernel_rfl) (by kernel_rfl) (fun _ _ _ h => h) (fun w' hk => (by kernel_rfl)) HK ?_
          obtain ⟨W37, hrun_, H_, hk_⟩ := ex_ks (P := Tryd.prog) (ty := 0) (ps := "ref.go:76") (af := #[{ on := 10, ground := Go.Ground.data }, { on := 8, ground := Go.Ground.data }, { on := 6, ground := Go.Ground.chain }, { on := 0, ground := Go.Ground.phase }, { on := 1, ground := Go.Ground.phase }, { on := 2, ground := Go.Ground.phase }, { on := 3, ground := Go.Ground.phase }, { on := 4, ground := Go.Ground.phase }, { on := 5, ground := Go.Ground.phase }, { on := 6, ground := Go.Ground.phase }, { on := 7, ground := Go.Ground.phase }, { on := 8, ground := Go.Ground.phase }, { on := 9, ground := (Go.Ground.textOnly Go.Departure.lateStores) }, { on := 10, ground := Go.Ground.phase }]) (gd := none) (t := 46) (x := (Go.Operand.tmp 9)) (y := (Go.Operand.tmp 43)) (v := .agg #[.int .i64 rows, .int .i64 cols, .slice A33 cq35.length c34]) HS 1 rfl (0) [.int .i64 rows, .int .i64 cols, .slice A33 cq35.length c34] (by kernel_rfl) (by kernel_rfl) (by kernel_rfl) (by kernel_rfl) (one_ (by kernel_rfl)) (Nat.le_of_ble_eq_true rfl)
          replace HK := HK.trans hk_ (fun _ h_ => .inr (Nat.le_trans hv_g31 (Nat.le_of_eq (Eq.symm h_))))
          refine t_s (n := 1) 11 rfl (by kernel_rfl) (by kernel_rfl) hrun_ HK ?_
          clear hk_ hrun_
          replace HS : St W M W37 [row A33 cq35.length c34 (cf actD cq35) 58 2, blk g31 [.int .i64 rows, .int .i64 cols, .slice A33 cq35.length c34] 46, row (some ⟨g21, 0, none⟩) ((rowL Xr r).length) c14 (ci .i64 (rowL Xr r)) 3 1, blk g3 [.int .i64 0, .int .i64 0, .slice none 0 0] 46, blk g1 [.int .i64 rows, .int .i64 cols, .slice Aqi cqi.length cpi] 46] := H_
          clear H_
          refine t_q (n := 0) 12 (.bool (orMB Xi r (rdI (rowL Xr r) i))) rfl (by kernel_rfl) (by kernel_rfl) (fun _ _ _ h => h) (fun w' hk => (by kernel_rfl)) HK ?_
          refine t_done (by kernel_rfl) ?_
          clear HV HK
          refine x_then ?_
          refine wp_seq ?_
          refine wp_region_lit ?_
          refine ql (.agg #[.int .i64 rows, .int .i64 cols, .slice A33 cq35.length c34]) (by kernel_rfl) (R_loadN (p := ⟨g31, 0, none⟩) [.int .i64 rows, .int .i64 cols, .slice A33 cq35.length c34] (by kernel_rfl) (by kernel_rfl) (by kernel_rfl) (by kernel_rfl) (three_at (HS.cell (i := 1) (j := 0) rfl rfl) (HS.cell (i := 1) (j := 1) rfl rfl) (HS.cell (i := 1) (j := 2) rfl rfl))) ?_
          refine ks (v := .agg #[.int .i64 rows, .int .i64 cols, .slice A33 cq35.length c34]) HS 4 rfl (0) [.int .i64 rows, .int .i64 cols, .slice A33 cq35.length c34] (by kernel_rfl) (by kernel_rfl) (by kernel_rfl) (by kernel_rfl) (by kernel_rfl) (one_ (by kernel_rfl)) (Nat.le_of_ble_eq_true rfl) rfl ?_
          intro W38 H_
          replace HS : St W M W38 [row A33 cq35.length c34 (cf actD cq35) 58 2, blk g31 [.int .i64 rows, .int .i64 cols, .slice A33 cq35.length c34] 46, row (some ⟨g21, 0, none⟩) ((rowL Xr r).length) c14 (ci .i64 (rowL Xr r)) 3 1, blk g3 [.int .i64 0, .int .i64 0, .slice none 0 0] 46, blk g1 [.int .i64 rows, .int .i64 cols, .slice A33 cq35.length c34] 46] := H_
          clear H_
          refine wpList_nil ?_
          refine x_then ?_
          refine wp_region_lit ?_
          refine ql (.bool moi) (by kernel_rfl) (by kernel_rfl) ?_
          refine ql (.bool moi) (by kernel_rfl) (by kernel_rfl) ?_
          by_cases hb39 : moi = true
          · skip
            subst hb39
            refine qln (by kernel_rfl) ?_
            refine ql (.bool true) (by kernel_rfl) (by kernel_rfl) ?_
            refine ql (.bool true) (by kernel_rfl) (by kernel_rfl) ?_
            refine wpList_nil ?_
            refine x_inb ?_
            refine x_then ?_
            refine wp_region_lit ?_
            refine ql (.int .i64 i) (by kernel_rfl) (by kernel_rfl) ?_
            refine ql (.int .i64 (i + 1)) (by kernel_rfl) (R_int (by kernel_rfl) (w64 (by omega))) ?_
            refine ql (.int .i64 (i + 1)) (by kernel_rfl) (by kernel_rfl) ?_
            refine wpList_nil ?_
            replace HS : St W M W38 [row (some ⟨g21, 0, none⟩) ((rowL Xr r).length) c14 (ci .i64 (rowL Xr r)) 3 1, blk g3 [.int .i64 0, .int .i64 0, .slice none 0 0] 46, blk g1 [.int .i64 rows, .int .i64 cols, .slice A33 cq35.length c34] 46, row A33 cq35.length c34 (cf actD cq35) 58 2] := St.tail (F := [blk g31 [.int .i64 rows, .int .i64 cols, .slice A33 cq35.length c34] 46]) (HS.perm (perm_ [1, 2, 3, 4, 0] (by kernel_rfl) rfl))
            refine x_then ?_
            exact ⟨(rowL Xr r).length - (i + 1).toNat, by omega, (fun k_ : Nat => List.getD ((.agg #[.int .i64 rows, .int .i64 cols, .slice A cs.length c]) :: (.pointer (some ⟨g1, 0, none⟩)) :: (.pointer (some ⟨g3, 0, none⟩)) :: (.int .i64 0) :: (.int .i64 (cs.length : Int)) :: (.bool true) :: (.int .i64 r) :: (.slice (some ⟨g21, 0, none⟩) ((rowL Xr r).length) c14) :: (.int .i64 (i + 1)) :: (.pointer (some ⟨g31, 0, none⟩)) :: (.bool (orMB Xi r (rdI (rowL Xr r) i))) :: (.pointer (some ⟨g1, 2, none⟩)) :: (.slice A cs.length c) :: (.int .i64 (cs.length : Int)) :: (.pointer (some ⟨g1, 0, none⟩)) :: (.int .i64 rows) :: (.pointer (some ⟨g1, 1, none⟩)) :: (.int .i64 cols) :: (.bool true) :: (.bool moo) :: (.int .i64 r) :: (.pointer (some ⟨g1, 0, none⟩)) :: (.int .i64 rows) :: (.bool true) :: ((J9 24)) :: ((J9 25)) :: (.agg #[.int .i64 rows, .int .i64 cols, .slice Aqr cqr.length cpr]) :: (.int .i64 r) :: (.slice (some ⟨g21, 0, none⟩) ((rowL Xr r).length) c14) :: (.int .i64 i) :: (.slice (some ⟨g21, 0, none⟩) ((rowL Xr r).length) c14) :: (.int .i64 ((rowL Xr r).length : Int)) :: (.bool true) :: (.int .i64 i) :: (.int .i64 (i + 1)) :: (.tuple #[.agg #[.int .i64 rows, .int .i64 cols, .slice A33 cq35.length c34], .bool (orMB Xi r (rdI (rowL Xr r) i))]) :: (.agg #[.int .i64 rows, .int .i64 cols, .slice Aqi cqi.length cpi]) :: (.int .i64 r) :: (.slice (some ⟨g21, 0, none⟩) ((rowL Xr r).length) c14) :: (.int .i64 i) :: (.pointer (some ⟨g21, i.toNat, none⟩)) :: (.int .i64 (rdI (rowL Xr r) i)) :: (.tuple #[.agg #[.int .i64 rows, .int .i64 cols, .slice A33 cq35.length c34], .bool (orMB Xi r (rdI (rowL Xr r) i))]) :: (.agg #[.int .i64 rows, .int .i64 cols, .slice A33 cq35.length c34]) :: (.bool (orMB Xi r (rdI (rowL Xr r) i))) :: (.agg #[.int .i64 rows, .int .i64 cols, .slice A33 cq35.length c34]) :: (.bool true) :: (.bool true) :: undef :: (.bool true) :: undef :: undef :: undef :: undef :: undef :: undef :: []) k_ undef), i + 1, (orM Xi r (rdI (rowL Xr r) i)), true, cq35, A33, c34, congrArg Fr (by kernel_rfl), rfl, by omega, by omega, hMn, (by have h_ := st9; first | (rw [Bool.true_or] at h_; exact h_) | (rw [Bool.false_or] at h_; exact h_)), HS⟩
          · skip
            replace hb39 := Bool.eq_false_iff.2 hb39
            subst hb39
            refine ql (.bool (orMB Xi r (rdI (rowL Xr r) i))) (by kernel_rfl) (by kernel_rfl) ?_
            refine ql (.bool (orMB Xi r (rdI (rowL Xr r) i))) (by kernel_rfl) (by kernel_rfl) ?_
            refine ql (.bool (orMB Xi r (rdI (rowL Xr r) i))) (by kernel_rfl) (by kernel_rfl) ?_
            refine wpList_nil ?_
            refine x_inb ?_
            refine x_then ?_
            refine wp_region_lit ?_
            refine ql (.int .i64 i) (by kernel_rfl) (by kernel_rfl) ?_
            refine ql (.int .i64 (i + 1)) (by kernel_rfl) (R_int (by kernel_rfl) (w64 (by omega))) ?_
            refine ql (.int .i64 (i + 1)) (by kernel_rfl) (by kernel_rfl) ?_
            refine wpList_nil ?_
            replace HS : St W M W38 [row (some ⟨g21, 0, none⟩) ((rowL Xr r).length) c14 (ci .i64 (rowL Xr r)) 3 1, blk g3 [.int .i64 0, .int .i64 0, .slice none 0 0] 46, blk g1 [.int .i64 rows, .int .i64 cols, .slice A33 cq35.length c34] 46, row A33 cq35.length c34 (cf actD cq35) 58 2] := St.tail (F := [blk g31 [.int .i64 rows, .int .i64 cols, .slice A33 cq35.length c34] 46]) (HS.perm (perm_ [1, 2, 3, 4, 0] (by kernel_rfl) rfl))
            refine x_then ?_
            exact ⟨(rowL Xr r).length - (i + 1).toNat, by omega, (fun k_ : Nat => List.getD ((.agg #[.int .i64 rows, .int .i64 cols, .slice A cs.length c]) :: (.pointer (some ⟨g1, 0, none⟩)) :: (.pointer (some ⟨g3, 0, none⟩)) :: (.int .i64 0) :: (.int .i64 (cs.length : Int)) :: (.bool (orMB Xi r (rdI (rowL Xr r) i))) :: (.int .i64 r) :: (.slice (some ⟨g21, 0, none⟩) ((rowL Xr r).length) c14) :: (.int .i64 (i + 1)) :: (.pointer (some ⟨g31, 0, none⟩)) :: (.bool (orMB Xi r (rdI (rowL Xr r) i))) :: (.pointer (some ⟨g1, 2, none⟩)) :: (.slice A cs.length c) :: (.int .i64 (cs.length : Int)) :: (.pointer (some ⟨g1, 0, none⟩)) :: (.int .i64 rows) :: (.pointer (some ⟨g1, 1, none⟩)) :: (.int .i64 cols) :: (.bool true) :: (.bool moo) :: (.int .i64 r) :: (.pointer (some ⟨g1, 0, none⟩)) :: (.int .i64 rows) :: (.bool true) :: ((J9 24)) :: ((J9 25)) :: (.agg #[.int .i64 rows, .int .i64 cols, .slice Aqr cqr.length cpr]) :: (.int .i64 r) :: (.slice (some ⟨g21, 0, none⟩) ((rowL Xr r).length) c14) :: (.int .i64 i) :: (.slice (some ⟨g21, 0, none⟩) ((rowL Xr r).length) c14) :: (.int .i64 ((rowL Xr r).length : Int)) :: (.bool true) :: (.int .i64 i) :: (.int .i64 (i + 1)) :: (.tuple #[.agg #[.int .i64 rows, .int .i64 cols, .slice A33 cq35.length c34], .bool (orMB Xi r (rdI (rowL Xr r) i))]) :: (.agg #[.int .i64 rows, .int .i64 cols, .slice Aqi cqi.length cpi]) :: (.int .i64 r) :: (.slice (some ⟨g21, 0, none⟩) ((rowL Xr r).length) c14) :: (.int .i64 i) :: (.pointer (some ⟨g21, i.toNat, none⟩)) :: (.int .i64 (rdI (rowL Xr r) i)) :: (.tuple #[.agg #[.int .i64 rows, .int .i64 cols, .slice A33 cq35.length c34], .bool (orMB Xi r (rdI (rowL Xr r) i))]) :: (.agg #[.int .i64 rows, .int .i64 cols, .slice A33 cq35.length c34]) :: (.bool (orMB Xi r (rdI (rowL Xr r) i))) :: (.agg #[.int .i64 rows, .int .i64 cols, .slice A33 cq35.length c34]) :: (.bool false) :: (.bool false) :: (.bool (orMB Xi r (rdI (rowL Xr r) i))) :: (.bool (orMB Xi r (rdI (rowL Xr r) i))) :: undef :: undef :: undef :: undef :: undef :: undef :: []) k_ undef), i + 1, (orM Xi r (rdI (rowL Xr r) i)), (orMB Xi r (rdI (rowL Xr r) i)), cq35, A33, c34, congrArg Fr (by kernel_rfl), rfl, by omega, by omega, hMn, (by have h_ := st9; first | (rw [Bool.true_or] at h_; exact h_) | (rw [Bool.false_or] at h_; exact h_)), HS⟩
      · skip
        refine ql (.bool false) (by kernel_rfl) (R_nbool (p := i < ((rowL Xr r).length : Int)) (by kernel_rfl) (hc19)) ?_
        refine wpList_nil ?_
        refine x_then ?_
        refine wp_cond_false (by kernel_rfl) ?_
        refine wp_exit ?_
        refine x_thenE ?_
        refine x_thenE ?_
        refine x_hit ?_
        refine x_inb ?_
        refine x_then ?_
        refine wp_region_lit ?_
        refine ql (.int .i64 r) (by kernel_rfl) (by kernel_rfl) ?_
        refine ql (.int .i64 (r + 1)) (by kernel_rfl) (R_int (by kernel_rfl) (w64 (by omega))) ?_
        refine ql (.int .i64 (r + 1)) (by kernel_rfl) (by kernel_rfl) ?_
        refine wpList_nil ?_
        replace HS := HS.drop1
        refine x_then ?_
        exact ⟨rows.toNat - (r + 1).toNat, by omega, (fun k_ : Nat => List.getD ((.agg #[.int .i64 rows, .int .i64 cols, .slice A cs.length c]) :: (.pointer (some ⟨g1, 0, none⟩)) :: (.pointer (some ⟨g3, 0, none⟩)) :: (.int .i64 0) :: (.int .i64 (cs.length : Int)) :: (.bool moi) :: (.int .i64 (r + 1)) :: (.slice A13 ((rowL Xr r).length) c14) :: (.int .i64 i) :: ((J16 9)) :: ((J16 10)) :: (.pointer (some ⟨g1, 2, none⟩)) :: (.slice A cs.length c) :: (.int .i64 (cs.length : Int)) :: (.pointer (some ⟨g1, 0, none⟩)) :: (.int .i64 rows) :: (.pointer (some ⟨g1, 1, none⟩)) :: (.int .i64 cols) :: (.bool true) :: (.bool moo) :: (.int .i64 r) :: (.pointer (some ⟨g1, 0, none⟩)) :: (.int .i64 rows) :: (.bool true) :: (.int .i64 r) :: (.int .i64 (r + 1)) :: (.agg #[.int .i64 rows, .int .i64 cols, .slice Aqr cqr.length cpr]) :: (.int .i64 r) :: (.slice A13 ((rowL Xr r).length) c14) :: (.int .i64 i) :: (.slice A13 ((rowL Xr r).length) c14) :: (.int .i64 ((rowL Xr r).length : Int)) :: (.bool false) :: ((J16 33)) :: ((J16 34)) :: ((J16 35)) :: ((J16 36)) :: ((J16 37)) :: ((J16 38)) :: ((J16 39)) :: ((J16 40)) :: ((J16 41)) :: ((J16 42)) :: ((J16 43)) :: ((J16 44)) :: ((J16 45)) :: ((J16 46)) :: ((J16 47)) :: ((J16 48)) :: ((J16 49)) :: undef :: undef :: undef :: undef :: undef :: undef :: []) k_ undef), r + 1, Xi, moi, cqi, Aqi, cpi, congrArg Fr (by kernel_rfl), rfl, by omega, by omega, hMi, (hCi.next (by omega)), HS⟩
    · skip
      refine ql (.bool false) (by kernel_rfl) (R_nbool (p := r < rows) (by kernel_rfl) (hc12)) ?_
      refine wpList_nil ?_
      refine x_then ?_
      refine wp_cond_false (by kernel_rfl) ?_
      refine wp_exit ?_
      refine x_thenE ?_
      refine x_thenE ?_
      refine x_hit ?_
      refine x_inb ?_
      have hme := hCr.mea (hCr.cb h0 h1 (by omega))
      rw [← hmt] at hme
      refine x_then ?_
      exact ⟨mea Xr mor, by omega, (fun k_ : Nat => List.getD ((.agg #[.int .i64 rows, .int .i64 cols, .slice A cs.length c]) :: (.pointer (some ⟨g1, 0, none⟩)) :: (.pointer (some ⟨g3, 0, none⟩)) :: (.int .i64 0) :: (.int .i64 (cs.length : Int)) :: (.bool mor) :: (.int .i64 r) :: ((J9 7)) :: ((J9 8)) :: ((J9 9)) :: ((J9 10)) :: (.pointer (some ⟨g1, 2, none⟩)) :: (.slice A cs.length c) :: (.int .i64 (cs.length : Int)) :: (.pointer (some ⟨g1, 0, none⟩)) :: (.int .i64 rows) :: (.pointer (some ⟨g1, 1, none⟩)) :: (.int .i64 cols) :: (.bool true) :: (.bool moo) :: (.int .i64 r) :: (.pointer (some ⟨g1, 0, none⟩)) :: (.int .i64 rows) :: (.bool false) :: ((J9 24)) :: ((J9 25)) :: ((J9 26)) :: ((J9 27)) :: ((J9 28)) :: ((J9 29)) :: ((J9 30)) :: ((J9 31)) :: ((J9 32)) :: ((J9 33)) :: ((J9 34)) :: ((J9 35)) :: ((J9 36)) :: ((J9 37)) :: ((J9 38)) :: ((J9 39)) :: ((J9 40)) :: ((J9 41)) :: ((J9 42)) :: ((J9 43)) :: ((J9 44)) :: ((J9 45)) :: ((J9 46)) :: ((J9 47)) :: ((J9 48)) :: ((J9 49)) :: undef :: undef :: undef :: undef :: undef :: undef :: []) k_ undef), Xr, mor, cqr, Aqr, cpr, congrArg Fr (by kernel_rfl), rfl, hMr, (hCr.fin (by omega)), HS⟩
  · skip
    have hmt : moo = false := Bool.eq_false_iff.2 hc8
    refine wp_cond_false (kb_eq (b := moo) (by kernel_rfl) (Bool.eq_false_iff.2 hc8)) ?_
    refine wp_exit ?_
    refine x_thenE ?_
    refine x_thenE ?_
    refine x_hit ?_
    refine x_then ?_
    refine wp_seq ?_
    refine t_start HS (fun k_ => (blk g3 [.int .i64 0, .int .i64 0, .slice none 0 0] 46).own k_) 8 (by kernel_rfl) rfl ?_
    intro W40 H_ HD_
    clear HD_
    replace HS : St W M W40 [blk g3 [.int .i64 0, .int .i64 0, .slice none 0 0] 46, blk g1 [.int .i64 rows, .int .i64 cols, .slice Aqo cqo.length cpo] 46, row Aqo cqo.length cpo (cf actD cqo) 58 2] := H_
    clear H_
    have HV := HS
    have HK := Kpt.refl (fun k_ => (blk g3 [.int .i64 0, .int .i64 0, .slice none 0 0] 46).own k_) W40
    refine t_q (n := 7) 0 (.agg #[.int .i64 rows, .int .i64 cols, .slice Aqo cqo.length cpo]) rfl (by kernel_rfl) (by kernel_rfl) (fun _ _ _ h => h) (fun w' hk => (R_loadN (p := ⟨g1, 0, none⟩) [.int .i64 rows, .int .i64 cols, .slice Aqo cqo.length cpo] (by kernel_rfl) (by kernel_rfl) (by kernel_rfl) (by kernel_rfl) (three_at (hk.cellN (HV.sepB (a := 1) (b := 0) (by decide) rfl rfl) (HV.cell (i := 1) (j := 0) rfl rfl)) (hk.cellN (HV.sepB (a := 1) (b := 0) (by decide) rfl rfl) (HV.cell (i := 1) (j := 1) rfl rfl)) (hk.cellN (HV.sepB (a := 1) (b := 0) (by decide) rfl rfl) (HV.cell (i := 1) (j := 2) rfl rfl))))) HK ?_
    refine t_q (n := 6) 1 (.pointer (some ⟨g1, 2, none⟩)) rfl (by kernel_rfl) (by kernel_rfl) (fun _ _ _ h => h) (fun w' hk => (by kernel_rfl)) HK ?_
    refine t_q (n := 5) 2 (.slice Aqo cqo.length cpo) rfl (by kernel_rfl) (by kernel_rfl) (fun _ _ _ h => h) (fun w' hk => (R_load (p := ⟨g1, 2, none⟩) (by kernel_rfl) (by kernel_rfl) (by kernel_rfl) (hk.cellN (HV.sepB (a := 1) (b := 0) (by decide) rfl rfl) (HV.cell (i := 1) (j := 2) rfl rfl)))) HK ?_
    refine t_q (n := 4) 3 (.int .i64 (cqo.length : Int)) rfl (by kernel_rfl) (by kernel_rfl) (fun _ _ _ h => h) (fun w' hk => (by kernel_rfl)) HK ?_
    refine t_q (n := 3) 4 (.int .i64 (cs.length : Int)) rfl (by kernel_rfl) (by kernel_rfl) (fun _ _ _ h => h) (fun w' hk => (by kernel_rfl)) HK ?_
    refine t_q (n := 2) 5 (.int .i64 ((cqo.length : Int) - (cs.length : Int))) rfl (by kernel_rfl) (by kernel_rfl) (fun _ _ _ h => h) (fun w' hk => (R_int (by kernel_rfl) (w64 (by omega)))) HK ?_
    obtain ⟨W41, hrun_, H_, hk_⟩ := ex_ks (P := Tryd.prog) (ty := 0) (ps := "ref.go:82") (af := #[{ on := 0, ground := Go.Ground.data }, { on := 0, ground := Go.Ground.phase }, { on := 1, ground := (Go.Ground.textOnly Go.Departure.lateStores) }, { on := 2, ground := (Go.Ground.textOnly Go.Departure.lateStores) }, { on := 3, ground := (Go.Ground.textOnly Go.Departure.lateStoresUnsure) }, { on := 4, ground := (Go.Ground.textOnly Go.Departure.lateStores) }, { on := 5, ground := (Go.Ground.textOnly Go.Departure.lateStores) }]) (gd := none) (t := 46) (x := (Go.Operand.tmp 2)) (y := (Go.Operand.tmp 50)) (v := .agg #[.int .i64 rows, .int .i64 cols, .slice Aqo cqo.length cpo]) HS 0 rfl (0) [.int .i64 rows, .int .i64 cols, .slice Aqo cqo.length cpo] (by kernel_rfl) (by kernel_rfl) (by kernel_rfl) (by kernel_rfl) (one_ (by kernel_rfl)) (Nat.le_of_ble_eq_true rfl)
    replace HK := HK.trans hk_ (fun _ h_ => .inl (blk_own h_))
    refine t_s (n := 1) 6 rfl (by kernel_rfl) (by kernel_rfl) hrun_ HK ?_
    clear hk_ hrun_
    replace HS : St W M W41 [blk g3 [.int .i64 rows, .int .i64 cols, .slice Aqo cqo.length cpo] 46, blk g1 [.int .i64 rows, .int .i64 cols, .slice Aqo cqo.length cpo] 46, row Aqo cqo.length cpo (cf actD cqo) 58 2] := H_
    clear H_
    refine t_q (n := 0) 7 (.int .i64 ((cqo.length : Int) - (cs.length : Int))) rfl (by kernel_rfl) (by kernel_rfl) (fun _ _ _ h => h) (fun w' hk => (by kernel_rfl)) HK ?_
    refine t_done (by kernel_rfl) ?_
    clear HV HK
    refine x_then ?_
    refine wp_ret ?_
    refine ret_ (.tuple #[.agg #[.int .i64 rows, .int .i64 cols, .slice Aqo cqo.length cpo], .int .i64 ((cqo.length : Int) - (cs.length : Int))]) (res2 rfl (oneRes_agg (p := ⟨g3, 0, none⟩) [.int .i64 rows, .int .i64 cols, .slice Aqo cqo.length cpo] (by kernel_rfl) (by kernel_rfl) (by kernel_rfl) (by kernel_rfl) (HS.cellsN (i := 0) rfl)) (oneRes_t (by kernel_rfl))) ?_
    replace HS := HS.drop1
    replace HS := HS.drop1
    rw [hmt] at hCo
    have he9 := hCo.out hS
    rw [he9] at hMo
    exact ⟨_, _, cqo, by rw [← hMo.cnt, ← hMC.cnt], HS, hMo⟩

set_option maxRecDepth 100000 in
set_option maxHeartbeats 1000000 in
theorem c6closen (A : Option Addr) (c : Nat) (cs : List (Int × Int)) (rows cols : Int) (W : World) (M : Nat → Prop) (HS : St W M W [row A cs.length c (cf actD cs) 58 2]) (hl : cs.length ≤ 100000) (hsq : rows ≠ cols) : Calls Tryd.prog 54 #[.agg #[.int .i64 rows, .int .i64 cols, .slice A cs.length c]] W fun e W' => e = .returned (.tuple #[.agg #[.int .i64 rows, .int .i64 cols, .slice A cs.length c], .int .i64 0]) ∧ St W M W' [row A cs.length c (cf actD cs) 58 2] := by
  refine calls_enter ((.agg #[.int .i64 rows, .int .i64 cols, .slice A cs.length c]) :: undef :: undef :: undef :: undef :: undef :: undef :: undef :: undef :: undef :: undef :: undef :: undef :: undef :: undef :: undef :: undef :: undef :: undef :: undef :: undef :: undef :: undef :: undef :: undef :: undef :: undef :: undef :: undef :: undef :: undef :: undef :: undef :: undef :: undef :: undef :: undef :: undef :: undef :: undef :: undef :: undef :: undef :: undef :: undef :: undef :: undef :: undef :: undef :: undef :: undef :: undef :: undef :: undef :: undef :: undef :: []) Tryd.func54 rfl (by kernel_rfl) ?_
  refine wp_seq ?_
  refine wp_region_lit ?_
  refine kb HS [.int .i64 rows, .int .i64 cols, .slice A cs.length c] 46 (fun g => .pointer (some ⟨g, 0, none⟩)) (by kernel_rfl) (by kernel_rfl) ?_
  intro g1 W2 H_
  replace HS : St W M W2 [blk g1 [.int .i64 rows, .int .i64 cols, .slice A cs.length c] 46, row A cs.length c (cf actD cs) 58 2] := H_
  clear H_
  refine kb HS [.int .i64 0, .int .i64 0, .slice none 0 0] 46 (fun g => .pointer (some ⟨g, 0, none⟩)) (by kernel_rfl) (by kernel_rfl) ?_
  intro g3 W4 H_
  replace HS : St W M W4 [blk g3 [.int .i64 0, .int .i64 0, .slice none 0 0] 46, blk g1 [.int .i64 rows, .int .i64 cols, .slice A cs.length c] 46, row A cs.length c (cf actD cs) 58 2] := H_
  clear H_
  refine ql (.int .i64 0) (by kernel_rfl) (by kernel_rfl) ?_
  refine wpList_nil ?_
  refine x_then ?_
  refine wp_seq ?_
  refine wp_region_lit ?_
  refine ql (.pointer (some ⟨g1, 2, none⟩)) (by kernel_rfl) (by kernel_rfl) ?_
  refine ql (.slice A cs.length c) (by kernel_rfl) (R_load (p := ⟨g1, 2, none⟩) (by kernel_rfl) (by kernel_rfl) (by kernel_rfl) (HS.cell (i := 1) (j := 2) rfl rfl)) ?_
  refine ql (.int .i64 (cs.length : Int)) (by kernel_rfl) (by kernel_rfl) ?_
  refine ql (.int .i64 (cs.length : Int)) (by kernel_rfl) (by kernel_rfl) ?_
  refine wpList_nil ?_
  refine x_then ?_
  refine wp_seq ?_
  refine wp_seq ?_
  refine wp_region_lit ?_
  refine ql (.pointer (some ⟨g1, 0, none⟩)) (by kernel_rfl) (by kernel_rfl) ?_
  refine ql (.int .i64 rows) (by kernel_rfl) (R_load (p := ⟨g1, 0, none⟩) (by kernel_rfl) (by kernel_rfl) (by kernel_rfl) (HS.cell (i := 1) (j := 0) rfl rfl)) ?_
  refine ql (.pointer (some ⟨g1, 1, none⟩)) (by kernel_rfl) (by kernel_rfl) ?_
  refine ql (.int .i64 cols) (by kernel_rfl) (R_load (p := ⟨g1, 1, none⟩) (by kernel_rfl) (by kernel_rfl) (by kernel_rfl) (HS.cell (i := 1) (j := 1) rfl rfl)) ?_
  refine ql (.bool false) (by kernel_rfl) (R_beq (b := (rows == cols)) (by kernel_rfl) (beq_f (by omega))) ?_
  refine ql (.bool false) (by kernel_rfl) (by kernel_rfl) ?_
  refine wpList_nil ?_
  refine x_then ?_
  refine wp_block ?_
  refine wp_loop_ghost (fun kq a' w' => a' = Fr ((.agg #[.int .i64 rows, .int .i64 cols, .slice A cs.length c]) :: (.pointer (some ⟨g1, 0, none⟩)) :: (.pointer (some ⟨g3, 0, none⟩)) :: (.int .i64 0) :: (.int .i64 (cs.length : Int)) :: (.bool false) :: undef :: undef :: undef :: undef :: undef :: (.pointer (some ⟨g1, 2, none⟩)) :: (.slice A cs.length c) :: (.int .i64 (cs.length : Int)) :: (.pointer (some ⟨g1, 0, none⟩)) :: (.int .i64 rows) :: (.pointer (some ⟨g1, 1, none⟩)) :: (.int .i64 cols) :: (.bool false) :: undef :: undef :: undef :: undef :: undef :: undef :: undef :: undef :: undef :: undef :: undef :: undef :: undef :: undef :: undef :: undef :: undef :: undef :: undef :: undef :: undef :: undef :: undef :: undef :: undef :: undef :: undef :: undef :: undef :: undef :: undef :: undef :: undef :: undef :: undef :: undef :: undef :: []) ∧ kq = 0 ∧ St W M w' [blk g3 [.int .i64 0, .int .i64 0, .slice none 0 0] 46, blk g1 [.int .i64 rows, .int .i64 cols, .slice A cs.length c] 46, row A cs.length c (cf actD cs) 58 2]) 0 ⟨rfl, rfl, HS⟩ ?_
  clear HS
  rintro kq a' WB ⟨rfl, hk, HS⟩
  refine wp_seq ?_
  refine wp_seq ?_
  refine wp_region_lit ?_
  refine ql (.bool false) (by kernel_rfl) (by kernel_rfl) ?_
  refine wpList_nil ?_
  refine x_then ?_
  refine wp_cond_false (by kernel_rfl) ?_
  refine wp_exit ?_
  refine x_thenE ?_
  refine x_thenE ?_
  refine x_hit ?_
  refine x_then ?_
  refine wp_seq ?_
  refine t_start HS (fun k_ => (blk g3 [.int .i64 0, .int .i64 0, .slice none 0 0] 46).own k_) 8 (by kernel_rfl) rfl ?_
  intro W5 H_ HD_
  clear HD_
  replace HS : St W M W5 [blk g3 [.int .i64 0, .int .i64 0, .slice none 0 0] 46, blk g1 [.int .i64 rows, .int .i64 cols, .slice A cs.length c] 46, row A cs.length c (cf actD cs) 58 2] := H_
  clear H_
  have HV := HS
  have HK := Kpt.refl (fun k_ => (blk g3 [.int .i64 0, .int .i64 0, .slice none 0 0] 46).own k_) W5
  refine t_q (n := 7) 0 (.agg #[.int .i64 rows, .int .i64 cols, .slice A cs.length c]) rfl (by kernel_rfl) (by kernel_rfl) (fun _ _ _ h => h) (fun w' hk => (R_loadN (p := ⟨g1, 0, none⟩) [.int .i64 rows, .int .i64 cols, .slice A cs.length c] (by kernel_rfl) (by kernel_rfl) (by kernel_rfl) (by kernel_rfl) (three_at (hk.cellN (HV.sepB (a := 1) (b := 0) (by decide) rfl rfl) (HV.cell (i := 1) (j := 0) rfl rfl)) (hk.cellN (HV.sepB (a := 1) (b := 0) (by decide) rfl rfl) (HV.cell (i := 1) (j := 1) rfl rfl)) (hk.cellN (HV.sepB (a := 1) (b := 0) (by decide) rfl rfl) (HV.cell (i := 1) (j := 2) rfl rfl))))) HK ?_
  refine t_q (n := 6) 1 (.pointer (some ⟨g1, 2, none⟩)) rfl (by kernel_rfl) (by kernel_rfl) (fun _ _ _ h => h) (fun w' hk => (by kernel_rfl)) HK ?_
  refine t_q (n := 5) 2 (.slice A cs.length c) rfl (by kernel_rfl) (by kernel_rfl) (fun _ _ _ h => h) (fun w' hk => (R_load (p := ⟨g1, 2, none⟩) (by kernel_rfl) (by kernel_rfl) (by kernel_rfl) (hk.cellN (HV.sepB (a := 1) (b := 0) (by decide) rfl rfl) (HV.cell (i := 1) (j := 2) rfl rfl)))) HK ?_
  refine t_q (n := 4) 3 (.int .i64 (cs.length : Int)) rfl (by kernel_rfl) (by kernel_rfl) (fun _ _ _ h => h) (fun w' hk => (by kernel_rfl)) HK ?_
  refine t_q (n := 3) 4 (.int .i64 (cs.length : Int)) rfl (by kernel_rfl) (by kernel_rfl) (fun _ _ _ h => h) (fun w' hk => (by kernel_rfl)) HK ?_
  refine t_q (n := 2) 5 (.int .i64 ((cs.length : Int) - (cs.length : Int))) rfl (by kernel_rfl) (by kernel_rfl) (fun _ _ _ h => h) (fun w' hk => (R_int (by kernel_rfl) (w64 (by omega)))) HK ?_
  obtain ⟨W6, hrun_, H_, hk_⟩ := ex_ks (P := Tryd.prog) (ty := 0) (ps := "ref.go:82") (af := #[{ on := 0, ground := Go.Ground.data }, { on := 0, ground := Go.Ground.phase }, { on := 1, ground := (Go.Ground.textOnly Go.Departure.lateStores) }, { on := 2, ground := (Go.Ground.textOnly Go.Departure.lateStores) }, { on := 3, ground := (Go.Ground.textOnly Go.Departure.lateStoresUnsure) }, { on := 4, ground := (Go.Ground.textOnly Go.Departure.lateStores) }, { on := 5, ground := (Go.Ground.textOnly Go.Departure.lateStores) }]) (gd := none) (t := 46) (x := (Go.Operand.tmp 2)) (y := (Go.Operand.tmp 50)) (v := .agg #[.int .i64 rows, .int .i64 cols, .slice A cs.length c]) HS 0 rfl (0) [.int .i64 rows, .int .i64 cols, .slice A cs.length c] (by kernel_rfl) (by kernel_rfl) (by kernel_rfl) (by kernel_rfl) (one_ (by kernel_rfl)) (Nat.le_of_ble_eq_true rfl)
  replace HK := HK.trans hk_ (fun _ h_ => .inl (blk_own h_))
  refine t_s (n := 1) 6 rfl (by kernel_rfl) (by kernel_rfl) hrun_ HK ?_
  clear hk_ hrun_
  replace HS : St W M W6 [blk g3 [.int .i64 rows, .int .i64 cols, .slice A cs.length c] 46, blk g1 [.int .i64 rows, .int .i64 cols, .slice A cs.length c] 46, row A cs.length c (cf actD cs) 58 2] := H_
  clear H_
  refine t_q (n := 0) 7 (.int .i64 ((cs.length : Int) - (cs.length : Int))) rfl (by kernel_rfl) (by kernel_rfl) (fun _ _ _ h => h) (fun w' hk => (by kernel_rfl)) HK ?_
  refine t_done (by kernel_rfl) ?_
  clear HV HK
  refine x_then ?_
  refine wp_ret ?_
  refine ret_ (.tuple #[.agg #[.int .i64 rows, .int .i64 cols, .slice A cs.length c], .int .i64 ((cs.length : Int) - (cs.length : Int))]) (res2 rfl (oneRes_agg (p := ⟨g3, 0, none⟩) [.int .i64 rows, .int .i64 cols, .slice A cs.length c] (by kernel_rfl) (by kernel_rfl) (by kernel_rfl) (by kernel_rfl) (HS.cellsN (i := 0) rfl)) (oneRes_t (by kernel_rfl))) ?_
  replace HS := HS.drop1
  replace HS := HS.drop1
  exact ⟨by rw [Int.sub_self], HS⟩

end Go.Proofs.YtgoapobflajliaaDoor
