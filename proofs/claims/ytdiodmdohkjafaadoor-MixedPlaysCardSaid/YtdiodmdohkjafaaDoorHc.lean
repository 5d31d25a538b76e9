/- The law MixedPlays holds at every input. This text: the walks through the functions that the statement reaches. No condition but those in the statement. -/
import Derived.WalkKit
import Derived.StillTailTactics
import Derived.Deep.LoopGhost
import Derived.KernelRfl
import Derived.Deep.OwnRows
import Derived.Laws.OwnMore
import Derived.Laws.MakeOwn
import Derived.Maps.AppendAt
import Derived.OrdersHeld
import Derived.Test.YtdiodmdohkjafaaDoorProg
import Derived.Test.YtdiodmdohkjafaaDoorHa
import Derived.Test.YtdiodmdohkjafaaDoorHb
namespace Go.Proofs.YtdiodmdohkjafaaDoor
open Go Go.RowKit Go.Shelf Go.Proofs.YtdiodmdohkjafaaDoor.Hp
attribute [local irreducible] wpStill wpList Code.wp TA
set_option linter.unusedVariables false
set_option linter.unusedSimpArgs false

set_option maxRecDepth 100000 in
set_option maxHeartbeats 1000000 in
theorem splace (g c : Nat) (A : Option Addr) (L : List Int) (i : Int) (W : World) (hz0 : W.cell? ⟨g, 0, none⟩ = some (.slice A L.length c)) (hr : Rd W A (ci .i32 L)) (hs : S31 L) (hl : L.length ≤ 100000) : Calls Tryd.prog 46 #[.pointer (some ⟨g, 0, none⟩), .int .i64 i] W fun e W' => e = .returned (.tuple #[.int .i64 (plc L i), .bool (decide (i ∈ L))]) ∧ St W (owns []) W' [] := by
  have HS : St W (owns []) W [] := St.start W _
  refine calls_enter [.pointer (some ⟨g, 0, none⟩), .int .i64 i, undef, undef, undef, undef, undef, undef, undef, undef, undef, undef, undef, undef, undef, undef, undef, undef, undef, undef, undef, undef, undef, undef, undef] Tryd.func46 rfl (by kernel_rfl) ?_
  refine wp_seq ?_
  refine wp_region_lit ?_
  refine ql (.int .i64 0) (by kernel_rfl) (by kernel_rfl) ?_
  refine ql (.bool false) (by kernel_rfl) (by kernel_rfl) ?_
  refine wpList_nil ?_
  refine x_then ?_
  refine wp_seq ?_
  refine wp_seq ?_
  refine wp_region_lit ?_
  refine ql (.pointer (some ⟨g, 0, none⟩)) (by kernel_rfl) (by kernel_rfl) ?_
  refine ql (.bool false) (by kernel_rfl) (by kernel_rfl) ?_
  refine ql (.bool false) (by kernel_rfl) (by kernel_rfl) ?_
  refine ql (.int .i64 i) (by kernel_rfl) (by kernel_rfl) ?_
  by_cases hc1 : i < (0 : Int)
  · skip
    refine ql (.bool true) (by kernel_rfl) (R_bool (p := i < (0 : Int)) (by kernel_rfl) (hc1)) ?_
    refine ql (.bool true) (by kernel_rfl) (by kernel_rfl) ?_
    refine ql (.bool true) (by kernel_rfl) (by kernel_rfl) ?_
    refine qln (by kernel_rfl) ?_
    refine qln (by kernel_rfl) ?_
    refine ql (.bool true) (by kernel_rfl) (by kernel_rfl) ?_
    refine wpList_nil ?_
    refine x_then ?_
    refine wp_cond_true (by kernel_rfl) ?_
    refine wp_seq ?_
    refine wp_region_lit ?_
    refine ql (.int .i64 0) (by kernel_rfl) (by kernel_rfl) ?_
    refine ql (.bool false) (by kernel_rfl) (by kernel_rfl) ?_
    refine wpList_nil ?_
    refine x_then ?_
    refine wp_ret ?_
    refine x_thenR ?_
    refine ret_ (.tuple #[.int .i64 0, .bool false]) (by kernel_rfl) ?_
    exact ⟨by rw [hs.plcO (by omega), decide_eq_false (hs.not_ (by omega))], HS⟩
  · skip
    refine ql (.bool false) (by kernel_rfl) (R_nbool (p := i < (0 : Int)) (by kernel_rfl) (hc1)) ?_
    refine ql (.bool false) (by kernel_rfl) (by kernel_rfl) ?_
    refine ql (.bool false) (by kernel_rfl) (by kernel_rfl) ?_
    refine ql (.int .i64 i) (by kernel_rfl) (by kernel_rfl) ?_
    by_cases hc2 : i > (2147483647 : Int)
    · skip
      refine ql (.bool true) (by kernel_rfl) (R_bool (p := i > (2147483647 : Int)) (by kernel_rfl) (hc2)) ?_
      refine ql (.bool true) (by kernel_rfl) (by kernel_rfl) ?_
      refine wpList_nil ?_
      refine x_then ?_
      refine wp_cond_true (by kernel_rfl) ?_
      refine wp_seq ?_
      refine wp_region_lit ?_
      refine ql (.int .i64 0) (by kernel_rfl) (by kernel_rfl) ?_
      refine ql (.bool false) (by kernel_rfl) (by kernel_rfl) ?_
      refine wpList_nil ?_
      refine x_then ?_
      refine wp_ret ?_
      refine x_thenR ?_
      refine ret_ (.tuple #[.int .i64 0, .bool false]) (by kernel_rfl) ?_
      exact ⟨by rw [hs.plcO (by omega), decide_eq_false (hs.not_ (by omega))], HS⟩
    · skip
      refine ql (.bool false) (by kernel_rfl) (R_nbool (p := i > (2147483647 : Int)) (by kernel_rfl) (hc2)) ?_
      refine ql (.bool false) (by kernel_rfl) (by kernel_rfl) ?_
      refine wpList_nil ?_
      refine x_then ?_
      refine wp_cond_false (by kernel_rfl) ?_
      refine wp_skip ?_
      refine x_then ?_
      refine wp_seq ?_
      refine wp_region_lit ?_
      refine ql (.pointer (some ⟨g, 0, none⟩)) (by kernel_rfl) (by kernel_rfl) ?_
      refine ql (.pointer (some ⟨g, 0, none⟩)) (by kernel_rfl) (by kernel_rfl) ?_
      refine ql (.pointer (some ⟨g, 0, none⟩)) (by kernel_rfl) (by kernel_rfl) ?_
      refine ql (.slice A L.length c) (by kernel_rfl) (R_load (p := ⟨g, 0, none⟩) (by kernel_rfl) (by kernel_rfl) (by kernel_rfl) (HS.old0 hz0)) ?_
      refine ql (.int .i64 i) (by kernel_rfl) (by kernel_rfl) ?_
      refine ql (.int .i32 i) (by kernel_rfl) (R_int (by kernel_rfl) (w32 (by omega))) ?_
      refine qc (f := 54) (args := #[.slice A L.length c, .int .i32 i]) (by kernel_rfl) (R_call #[.slice A L.length c, .int .i32 i] Tryd.func54 (by kernel_rfl) (by kernel_rfl) (by kernel_rfl)) ?_
      refine (sbs A c L i _ (hr.old0 HS) hl hs.1).mono ?_
      rintro e W3 ⟨rfl, H_⟩
      refine ⟨_, rfl, ?_⟩
      replace HS : St W (owns []) W3 [] := HS.join (F := []) (G := []) H_
      clear H_
      refine ql (.int .i64 (rk L i)) (by kernel_rfl) (by kernel_rfl) ?_
      refine ql (.bool (decide (i ∈ L))) (by kernel_rfl) (by kernel_rfl) ?_
      refine ql (.int .i64 (rk L i)) (by kernel_rfl) (by kernel_rfl) ?_
      refine ql (.bool (decide (i ∈ L))) (by kernel_rfl) (by kernel_rfl) ?_
      refine wpList_nil ?_
      refine x_then ?_
      refine wp_ret ?_
      refine ret_ (.tuple #[.int .i64 (rk L i), .bool (decide (i ∈ L))]) (by kernel_rfl) ?_
      exact ⟨by rw [plc_in (by omega)], HS⟩

set_option maxRecDepth 100000 in
set_option maxHeartbeats 1000000 in
theorem shas (g c : Nat) (A : Option Addr) (L : List Int) (i : Int) (W : World) (hz0 : W.cell? ⟨g, 0, none⟩ = some (.slice A L.length c)) (hr : Rd W A (ci .i32 L)) (hs : S31 L) (hl : L.length ≤ 100000) : Calls Tryd.prog 36 #[.pointer (some ⟨g, 0, none⟩), .int .i64 i] W fun e W' => e = .returned (.bool (decide (i ∈ L))) ∧ St W (owns []) W' [] := by
  have HS : St W (owns []) W [] := St.start W _
  refine calls_enter [.pointer (some ⟨g, 0, none⟩), .int .i64 i, undef, undef, undef, undef, undef, undef, undef, undef, undef, undef, undef, undef] Tryd.func36 rfl (by kernel_rfl) ?_
  refine wp_seq ?_
  refine wp_region_lit ?_
  refine ql (.bool false) (by kernel_rfl) (by kernel_rfl) ?_
  refine wpList_nil ?_
  refine x_then ?_
  refine wp_seq ?_
  refine wp_region_lit ?_
  refine ql (.pointer (some ⟨g, 0, none⟩)) (by kernel_rfl) (by kernel_rfl) ?_
  refine ql (.int .i64 i) (by kernel_rfl) (by kernel_rfl) ?_
  refine qc (f := 46) (args := #[.pointer (some ⟨g, 0, none⟩), .int .i64 i]) (by kernel_rfl) (R_call #[.pointer (some ⟨g, 0, none⟩), .int .i64 i] Tryd.func46 (by kernel_rfl) (by kernel_rfl) (by kernel_rfl)) ?_
  refine (splace g c A L i _ (HS.old0 hz0) (hr.old0 HS) hs hl).mono ?_
  rintro e W1 ⟨rfl, H_⟩
  refine ⟨_, rfl, ?_⟩
  replace HS : St W (owns []) W1 [] := HS.join (F := []) (G := []) H_
  clear H_
  refine ql (.tuple #[.int .i64 (plc L i), .bool (decide (i ∈ L))]) (by kernel_rfl) (by kernel_rfl) ?_
  refine ql (.int .i64 (plc L i)) (by kernel_rfl) (by kernel_rfl) ?_
  refine ql (.bool (decide (i ∈ L))) (by kernel_rfl) (by kernel_rfl) ?_
  refine ql (.int .i64 (plc L i)) (by kernel_rfl) (by kernel_rfl) ?_
  refine ql (.bool (decide (i ∈ L))) (by kernel_rfl) (by kernel_rfl) ?_
  refine wpList_nil ?_
  refine x_then ?_
  refine wp_seq ?_
  refine wp_region_lit ?_
  refine ql (.bool (decide (i ∈ L))) (by kernel_rfl) (by kernel_rfl) ?_
  refine ql (.bool (decide (i ∈ L))) (by kernel_rfl) (by kernel_rfl) ?_
  refine wpList_nil ?_
  refine x_then ?_
  refine wp_ret ?_
  refine ret_ (.bool (decide (i ∈ L))) (by kernel_rfl) ?_
  exact ⟨rfl, HS⟩

set_option maxRecDepth 100000 in
set_option maxHeartbeats 1000000 in
theorem slen (g c : Nat) (A : Option Addr) (L : List Int) (W : World) (hz0 : W.cell? ⟨g, 0, none⟩ = some (.slice A L.length c)) (hr : Rd W A (ci .i32 L)) (hs : S31 L) (hl : L.length ≤ 100000) : Calls Tryd.prog 34 #[.pointer (some ⟨g, 0, none⟩)] W fun e W' => e = .returned (.int .i64 (L.length : Int)) ∧ St W (owns []) W' [] := by
  have HS : St W (owns []) W [] := St.start W _
  refine calls_enter [.pointer (some ⟨g, 0, none⟩), undef, undef, undef, undef, undef, undef, undef, undef, undef] Tryd.func34 rfl (by kernel_rfl) ?_
  refine wp_seq ?_
  refine wp_region_lit ?_
  refine ql (.int .i64 0) (by kernel_rfl) (by kernel_rfl) ?_
  refine wpList_nil ?_
  refine x_then ?_
  refine wp_seq ?_
  refine wp_seq ?_
  refine wp_region_lit ?_
  refine ql (.pointer (some ⟨g, 0, none⟩)) (by kernel_rfl) (by kernel_rfl) ?_
  refine ql (.bool false) (by kernel_rfl) (by kernel_rfl) ?_
  refine wpList_nil ?_
  refine x_then ?_
  refine wp_cond_false (by kernel_rfl) ?_
  refine wp_skip ?_
  refine x_then ?_
  refine wp_seq ?_
  refine wp_region_lit ?_
  refine ql (.pointer (some ⟨g, 0, none⟩)) (by kernel_rfl) (by kernel_rfl) ?_
  refine ql (.pointer (some ⟨g, 0, none⟩)) (by kernel_rfl) (by kernel_rfl) ?_
  refine ql (.pointer (some ⟨g, 0, none⟩)) (by kernel_rfl) (by kernel_rfl) ?_
  refine ql (.slice A L.length c) (by kernel_rfl) (R_load (p := ⟨g, 0, none⟩) (by kernel_rfl) (by kernel_rfl) (by kernel_rfl) (HS.old0 hz0)) ?_
  refine ql (.int .i64 (L.length : Int)) (by kernel_rfl) (by kernel_rfl) ?_
  refine ql (.int .i64 (L.length : Int)) (by kernel_rfl) (by kernel_rfl) ?_
  refine wpList_nil ?_
  refine x_then ?_
  refine wp_ret ?_
  refine ret_ (.int .i64 (L.length : Int)) (by kernel_rfl) ?_
  exact ⟨rfl, HS⟩

theorem sinsert (A : Option Addr) (c gv : Nat) (L : List Int) (x p : Int) (W : World) (M : Nat → Prop) (HS : St W M W [row A L.length c (ci .i32 L) 21 1, row (some ⟨gv, 0, none⟩) 1 1 (ci .i32 [x]) 21 1]) (hl : L.length ≤ 100000) (hs : L.Pairwise (· < ·)) (hx : x ∉ L) (hp : p = rk L x) : Calls Tryd.prog 47 #[.slice A L.length c, .int .i64 p, .slice (some ⟨gv, 0, none⟩) 1 1] W fun e W' => ∃ A' c', e = .returned (.slice A' (ins x L).length c') ∧ St W M W' [row A' (ins x L).length c' (ci .i32 (ins x L)) 21 1] := by
  subst hp
  have h0 := rk_0 L x
  have h1 := rk_le L x
  have hi := ins_at hs hx
  obtain ⟨k, hk⟩ : ∃ k : Nat, rk L x = (k : Int) := ⟨(rk L x).toNat, by omega⟩
  rw [hk] at hi h0 h1 ⊢
  rw [Int.toNat_natCast] at hi
  rw [← hi]
  by_cases he : k = L.length
  · subst he; exact sins_end A c gv L x W M HS hl
  · obtain ⟨g, rfl⟩ := St.rsome HS (i := 0) rfl (by omega)
    have hm := (HS.rcap (i := 0) rfl).2
    obtain ⟨sp, hc, _, HS2⟩ := HS.openRow (i := 0) rfl
    exact sins_mid g c gv k L sp x W M (St.cast_ (HS2.rowBlk (i := 1) (n := 1) (cs := ci .i32 [x]) rfl) (by kernel_rfl)) hl hc hm (by omega)

set_option maxRecDepth 100000 in
set_option maxHeartbeats 1000000 in
theorem sadd (g c : Nat) (A : Option Addr) (L : List Int) (i : Int) (W : World) (M : Nat → Prop) (HS : St W M W [blk g [.slice A L.length c] 74, row A L.length c (ci .i32 L) 21 1]) (hs : S31 L) (hl : L.length ≤ 90000) : Calls Tryd.prog 31 #[.pointer (some ⟨g, 0, none⟩), .int .i64 i] W fun e W' => ∃ A' c', e = .returned (.bool (addB 2147483648 L i)) ∧ St W M W' [blk g [.slice A' ((addL 2147483648 L i).length) c'] 74, row A' ((addL 2147483648 L i).length) c' (ci .i32 (addL 2147483648 L i)) 21 1] := by
  refine calls_enter [.pointer (some ⟨g, 0, none⟩), .int .i64 i, undef, undef, undef, undef, undef, undef, undef, undef, undef, undef, undef, undef, undef, undef, undef, undef, undef, undef, undef, undef, undef, undef, undef, undef, undef, undef, undef, undef, undef, undef, undef, undef, undef, undef, undef, undef] Tryd.func31 rfl (by kernel_rfl) ?_
  refine wp_seq ?_
  refine wp_region_lit ?_
  refine ql (.bool false) (by kernel_rfl) (by kernel_rfl) ?_
  refine wpList_nil ?_
  refine x_then ?_
  refine wp_seq ?_
  refine wp_region_lit ?_
  refine ql (.pointer (some ⟨g, 0, none⟩)) (by kernel_rfl) (by kernel_rfl) ?_
  refine ql (.int .i64 i) (by kernel_rfl) (by kernel_rfl) ?_
  refine qc (f := 46) (args := #[.pointer (some ⟨g, 0, none⟩), .int .i64 i]) (by kernel_rfl) (R_call #[.pointer (some ⟨g, 0, none⟩), .int .i64 i] Tryd.func46 (by kernel_rfl) (by kernel_rfl) (by kernel_rfl)) ?_
  by_cases hv : i ∈ L
  · skip
    have hdx : decide (i ∈ L) = true := decide_eq_true hv
    refine (splace g c A L i _ (HS.cell (i := 0) (j := 0) rfl rfl) (Rd.row HS (i := 1) rfl) hs (by omega)).mono ?_
    rintro e W1 ⟨rfl, H_⟩
    rw [hdx]
    refine ⟨_, rfl, ?_⟩
    replace HS : St W M W1 [blk g [.slice A L.length c] 74, row A L.length c (ci .i32 L) 21 1] := HS.join (F := []) (G := []) H_
    clear H_
    refine ql (.tuple #[.int .i64 (plc L i), .bool true]) (by kernel_rfl) (by kernel_rfl) ?_
    refine ql (.int .i64 (plc L i)) (by kernel_rfl) (by kernel_rfl) ?_
    refine ql (.bool true) (by kernel_rfl) (by kernel_rfl) ?_
    refine ql (.int .i64 (plc L i)) (by kernel_rfl) (by kernel_rfl) ?_
    refine ql (.bool true) (by kernel_rfl) (by kernel_rfl) ?_
    refine wpList_nil ?_
    refine x_then ?_
    refine wp_seq ?_
    refine wp_seq ?_
    refine wp_region_lit ?_
    refine ql (.bool true) (by kernel_rfl) (by kernel_rfl) ?_
    refine ql (.bool true) (by kernel_rfl) (by kernel_rfl) ?_
    refine qln (by kernel_rfl) ?_
    refine qln (by kernel_rfl) ?_
    refine ql (.bool true) (by kernel_rfl) (by kernel_rfl) ?_
    refine ql (.bool true) (by kernel_rfl) (by kernel_rfl) ?_
    refine qln (by kernel_rfl) ?_
    refine qln (by kernel_rfl) ?_
    refine ql (.bool true) (by kernel_rfl) (by kernel_rfl) ?_
    refine ql (.bool true) (by kernel_rfl) (by kernel_rfl) ?_
    refine qln (by kernel_rfl) ?_
    refine qln (by kernel_rfl) ?_
    refine ql (.bool true) (by kernel_rfl) (by kernel_rfl) ?_
    refine wpList_nil ?_
    refine x_then ?_
    refine wp_cond_true (by kernel_rfl) ?_
    refine wp_seq ?_
    refine wp_region_lit ?_
    refine ql (.bool false) (by kernel_rfl) (by kernel_rfl) ?_
    refine wpList_nil ?_
    refine x_then ?_
    refine wp_ret ?_
    refine x_thenR ?_
    refine ret_ (.bool false) (by kernel_rfl) ?_
    have ha := addL_out (n := 2147483648) (i := i) (L := L) (.inr (.inr hv))
    exact ⟨A, c, by rw [ha.2], by rw [ha.1]; exact HS⟩
  · skip
    have hdx : decide (i ∈ L) = false := decide_eq_false hv
    refine (splace g c A L i _ (HS.cell (i := 0) (j := 0) rfl rfl) (Rd.row HS (i := 1) rfl) hs (by omega)).mono ?_
    rintro e W2 ⟨rfl, H_⟩
    rw [hdx]
    refine ⟨_, rfl, ?_⟩
    replace HS : St W M W2 [blk g [.slice A L.length c] 74, row A L.length c (ci .i32 L) 21 1] := HS.join (F := []) (G := []) H_
    clear H_
    refine ql (.tuple #[.int .i64 (plc L i), .bool false]) (by kernel_rfl) (by kernel_rfl) ?_
    refine ql (.int .i64 (plc L i)) (by kernel_rfl) (by kernel_rfl) ?_
    refine ql (.bool false) (by kernel_rfl) (by kernel_rfl) ?_
    refine ql (.int .i64 (plc L i)) (by kernel_rfl) (by kernel_rfl) ?_
    refine ql (.bool false) (by kernel_rfl) (by kernel_rfl) ?_
    refine wpList_nil ?_
    refine x_then ?_
    refine wp_seq ?_
    refine wp_seq ?_
    refine wp_region_lit ?_
    refine ql (.bool false) (by kernel_rfl) (by kernel_rfl) ?_
    refine ql (.bool false) (by kernel_rfl) (by kernel_rfl) ?_
    refine ql (.pointer (some ⟨g, 0, none⟩)) (by kernel_rfl) (by kernel_rfl) ?_
    refine ql (.bool false) (by kernel_rfl) (by kernel_rfl) ?_
    refine ql (.bool false) (by kernel_rfl) (by kernel_rfl) ?_
    refine ql (.bool false) (by kernel_rfl) (by kernel_rfl) ?_
    refine ql (.int .i64 i) (by kernel_rfl) (by kernel_rfl) ?_
    by_cases hc3 : i < (0 : Int)
    · skip
      refine ql (.bool true) (by kernel_rfl) (R_bool (p := i < (0 : Int)) (by kernel_rfl) (hc3)) ?_
      refine ql (.bool true) (by kernel_rfl) (by kernel_rfl) ?_
      refine ql (.bool true) (by kernel_rfl) (by kernel_rfl) ?_
      refine qln (by kernel_rfl) ?_
      refine qln (by kernel_rfl) ?_
      refine ql (.bool true) (by kernel_rfl) (by kernel_rfl) ?_
      refine wpList_nil ?_
      refine x_then ?_
      refine wp_cond_true (by kernel_rfl) ?_
      refine wp_seq ?_
      refine wp_region_lit ?_
      refine ql (.bool false) (by kernel_rfl) (by kernel_rfl) ?_
      refine wpList_nil ?_
      refine x_then ?_
      refine wp_ret ?_
      refine x_thenR ?_
      refine ret_ (.bool false) (by kernel_rfl) ?_
      have ha := addL_out (n := 2147483648) (i := i) (L := L) (by omega)
      exact ⟨A, c, by rw [ha.2], by rw [ha.1]; exact HS⟩
    · skip
      refine ql (.bool false) (by kernel_rfl) (R_nbool (p := i < (0 : Int)) (by kernel_rfl) (hc3)) ?_
      refine ql (.bool false) (by kernel_rfl) (by kernel_rfl) ?_
      refine ql (.bool false) (by kernel_rfl) (by kernel_rfl) ?_
      refine ql (.int .i64 i) (by kernel_rfl) (by kernel_rfl) ?_
      by_cases hc4 : i > (2147483647 : Int)
      · skip
        refine ql (.bool true) (by kernel_rfl) (R_bool (p := i > (2147483647 : Int)) (by kernel_rfl) (hc4)) ?_
        refine ql (.bool true) (by kernel_rfl) (by kernel_rfl) ?_
        refine wpList_nil ?_
        refine x_then ?_
        refine wp_cond_true (by kernel_rfl) ?_
        refine wp_seq ?_
        refine wp_region_lit ?_
        refine ql (.bool false) (by kernel_rfl) (by kernel_rfl) ?_
        refine wpList_nil ?_
        refine x_then ?_
        refine wp_ret ?_
        refine x_thenR ?_
        refine ret_ (.bool false) (by kernel_rfl) ?_
        have ha := addL_out (n := 2147483648) (i := i) (L := L) (by omega)
        exact ⟨A, c, by rw [ha.2], by rw [ha.1]; exact HS⟩
      · skip
        refine ql (.bool false) (by kernel_rfl) (R_nbool (p := i > (2147483647 : Int)) (by kernel_rfl) (hc4)) ?_
        refine ql (.bool false) (by kernel_rfl) (by kernel_rfl) ?_
        refine wpList_nil ?_
        refine x_then ?_
        refine wp_cond_false (by kernel_rfl) ?_
        refine wp_skip ?_
        refine x_then ?_
        refine wp_seq ?_
        refine wp_region_lit ?_
        refine ql (.pointer (some ⟨g, 0, none⟩)) (by kernel_rfl) (by kernel_rfl) ?_
        refine ql (.pointer (some ⟨g, 0, none⟩)) (by kernel_rfl) (by kernel_rfl) ?_
        refine ql (.pointer (some ⟨g, 0, none⟩)) (by kernel_rfl) (by kernel_rfl) ?_
        refine ql (.pointer (some ⟨g, 0, none⟩)) (by kernel_rfl) (by kernel_rfl) ?_
        refine ql (.slice A L.length c) (by kernel_rfl) (R_load (p := ⟨g, 0, none⟩) (by kernel_rfl) (by kernel_rfl) (by kernel_rfl) (HS.cell (i := 0) (j := 0) rfl rfl)) ?_
        refine ql (.int .i64 (plc L i)) (by kernel_rfl) (by kernel_rfl) ?_
        refine ql (.int .i64 i) (by kernel_rfl) (by kernel_rfl) ?_
        refine ql (.int .i32 i) (by kernel_rfl) (R_int (by kernel_rfl) (w32 (by omega))) ?_
        refine kl HS 1 [.int .i32 i] 21 1 (by kernel_rfl) (by kernel_rfl) rfl (by decide) ?_
        intro g5 W6 H_
        replace HS : St W M W6 [row (some ⟨g5, 0, none⟩) 1 1 (ci .i32 ([i])) 21 1, blk g [.slice A L.length c] 74, row A L.length c (ci .i32 L) 21 1] := H_.cast_ (by kernel_rfl)
        clear H_
        refine qc (f := 47) (args := #[.slice A L.length c, .int .i64 (plc L i), .slice (some ⟨g5, 0, none⟩) 1 1]) (by kernel_rfl) (R_call #[.slice A L.length c, .int .i64 (plc L i), .slice (some ⟨g5, 0, none⟩) 1 1] Tryd.func47 (by kernel_rfl) (by kernel_rfl) (by kernel_rfl)) ?_
        replace HS : St W M W6 [row A L.length c (ci .i32 L) 21 1, row (some ⟨g5, 0, none⟩) 1 1 (ci .i32 ([i])) 21 1, blk g [.slice A L.length c] 74] := HS.perm (perm_ [2, 0, 1] (by kernel_rfl) rfl)
        refine (sinsert A c g5 L i (plc L i) _ _ (St.focus (F := [row A L.length c (ci .i32 L) 21 1, row (some ⟨g5, 0, none⟩) 1 1 (ci .i32 ([i])) 21 1]) HS) (by omega) hs.1 hv (plc_in (by omega))).mono ?_
        rintro e W9 ⟨A7, c8, rfl, H_⟩
        refine ⟨_, rfl, ?_⟩
        replace HS : St W M W9 [row A7 ((ins i L).length) c8 (ci .i32 (ins i L)) 21 1, blk g [.slice A L.length c] 74] := HS.join (F := [row A L.length c (ci .i32 L) 21 1, row (some ⟨g5, 0, none⟩) 1 1 (ci .i32 ([i])) 21 1]) (G := [row A7 ((ins i L).length) c8 (ci .i32 (ins i L)) 21 1]) H_
        clear H_
        refine ql (.pointer (some ⟨g, 0, none⟩)) (by kernel_rfl) (by kernel_rfl) ?_
        refine ql (.pointer (some ⟨g, 0, none⟩)) (by kernel_rfl) (by kernel_rfl) ?_
        refine ks (v := .slice A7 ((ins i L).length) c8) HS 1 rfl (0) [.slice A7 ((ins i L).length) c8] (by kernel_rfl) (by kernel_rfl) (by kernel_rfl) (by kernel_rfl) (by kernel_rfl) (one_ (by kernel_rfl)) (Nat.le_of_ble_eq_true rfl) rfl ?_
        intro W10 H_
        replace HS : St W M W10 [row A7 ((ins i L).length) c8 (ci .i32 (ins i L)) 21 1, blk g [.slice A7 ((ins i L).length) c8] 74] := H_
        clear H_
        refine wpList_nil ?_
        refine x_then ?_
        refine wp_seq ?_
        refine wp_region_lit ?_
        refine ql (.bool true) (by kernel_rfl) (by kernel_rfl) ?_
        refine wpList_nil ?_
        refine x_then ?_
        refine wp_ret ?_
        refine ret_ (.bool true) (by kernel_rfl) ?_
        replace HS : St W M W10 [blk g [.slice A7 ((ins i L).length) c8] 74, row A7 ((ins i L).length) c8 (ci .i32 (ins i L)) 21 1] := St.tail (F := []) (HS.perm (perm_ [1, 0] (by kernel_rfl) rfl))
        have ha := addL_in (n := 2147483648) (i := i) (L := L) (by omega) (by omega) hv
        exact ⟨_, _, by rw [ha.2], by rw [ha.1]; exact HS⟩

set_option maxRecDepth 100000 in
set_option maxHeartbeats 1000000 in
theorem sor (g c : Nat) (A : Option Addr) (L : List Int) (h c2 : Nat) (B : Option Addr) (M : List Int) (W : World) (M_ : Nat → Prop) (HS : St W M_ W [blk g [.slice A L.length c] 74, row A L.length c (ci .i32 L) 21 1, blk h [.slice B M.length c2] 74, row B M.length c2 (ci .i32 M) 21 1]) (hs : S31 L) (hl : L.length ≤ 50000) (hs2 : S31 M) (hl2 : M.length ≤ 50000) : Calls Tryd.prog 41 #[.pointer (some ⟨g, 0, none⟩), .pointer (some ⟨h, 0, none⟩)] W fun e W' => ∃ A' c', e = .returned (.bool (newB L M)) ∧ St W M_ W' [blk g [.slice A' ((uni L M).length) c'] 74, row A' ((uni L M).length) c' (ci .i32 (uni L M)) 21 1, blk h [.slice B M.length c2] 74, row B M.length c2 (ci .i32 M) 21 1] := by
  refine calls_enter ((.pointer (some ⟨g, 0, none⟩)) :: (.pointer (some ⟨h, 0, none⟩)) :: undef :: undef :: undef :: undef :: undef :: undef :: undef :: undef :: undef :: undef :: undef :: undef :: undef :: undef :: undef :: undef :: undef :: undef :: undef :: undef :: undef :: undef :: undef :: undef :: undef :: undef :: undef :: undef :: undef :: undef :: undef :: undef :: undef :: undef :: undef :: undef :: undef :: undef :: undef :: undef :: undef :: undef :: undef :: undef :: undef :: undef :: undef :: undef :: undef :: undef :: undef :: undef :: undef :: undef :: undef :: undef :: undef :: undef :: undef :: undef :: undef :: undef :: undef :: undef :: undef :: undef :: undef :: undef :: undef :: undef :: undef :: undef :: undef :: undef :: undef :: undef :: undef :: undef :: undef :: undef :: undef :: undef :: undef :: undef :: undef :: undef :: undef :: undef :: undef :: undef :: undef :: undef :: undef :: undef :: undef :: undef :: undef :: undef :: undef :: undef :: undef :: []) Tryd.func41 rfl (by kernel_rfl) ?_
  refine wp_seq ?_
  refine wp_region_lit ?_
  refine ql (.bool false) (by kernel_rfl) (by kernel_rfl) ?_
  refine wpList_nil ?_
  refine x_then ?_
  refine wp_seq ?_
  refine wp_seq ?_
  refine wp_region_lit ?_
  refine ql (.pointer (some ⟨g, 0, none⟩)) (by kernel_rfl) (by kernel_rfl) ?_
  refine ql (.bool false) (by kernel_rfl) (by kernel_rfl) ?_
  refine ql (.bool false) (by kernel_rfl) (by kernel_rfl) ?_
  refine ql (.pointer (some ⟨h, 0, none⟩)) (by kernel_rfl) (by kernel_rfl) ?_
  refine ql (.bool false) (by kernel_rfl) (by kernel_rfl) ?_
  refine ql (.bool false) (by kernel_rfl) (by kernel_rfl) ?_
  refine wpList_nil ?_
  refine x_then ?_
  refine wp_cond_false (by kernel_rfl) ?_
  refine wp_skip ?_
  refine x_then ?_
  refine wp_seq ?_
  have HB1 := HS
  have hr2 := Rd.row HB1 (i := 1) rfl
  have hr3 := Rd.row HB1 (i := 3) rfl
  clear HS
  have HS : St W (owns []) W [] := St.start _ _
  have hzg := HB1.cell (i := 0) (j := 0) rfl rfl
  have hzh := HB1.cell (i := 2) (j := 0) rfl rfl
  have hrc1 := (HB1.rcap (i := 1) rfl).1
  have hrc2 := (HB1.rcap (i := 3) rfl).1
  refine rg_still HS 11 (by kernel_rfl) (by kernel_rfl) ?_
  intro W4 H_ HK_
  simp only [List.take_succ_cons, List.take_zero, List.drop_succ_cons, List.drop_zero]
  replace HS : St W (owns []) W4 [] := H_
  clear H_
  clear HK_
  refine qs (.pointer (some ⟨g, 0, none⟩)) (by kernel_rfl) (by kernel_rfl) ?_
  refine qs (.pointer (some ⟨g, 0, none⟩)) (by kernel_rfl) (by kernel_rfl) ?_
  refine qs (.pointer (some ⟨g, 0, none⟩)) (by kernel_rfl) (by kernel_rfl) ?_
  refine qs (.slice A L.length c) (by kernel_rfl) (R_load (p := ⟨g, 0, none⟩) (by kernel_rfl) (by kernel_rfl) (by kernel_rfl) (HS.old0 hzg)) ?_
  refine qs (.int .i64 (L.length : Int)) (by kernel_rfl) (by kernel_rfl) ?_
  refine qs (.pointer (some ⟨h, 0, none⟩)) (by kernel_rfl) (by kernel_rfl) ?_
  refine qs (.pointer (some ⟨h, 0, none⟩)) (by kernel_rfl) (by kernel_rfl) ?_
  refine qs (.pointer (some ⟨h, 0, none⟩)) (by kernel_rfl) (by kernel_rfl) ?_
  refine qs (.slice B M.length c2) (by kernel_rfl) (R_load (p := ⟨h, 0, none⟩) (by kernel_rfl) (by kernel_rfl) (by kernel_rfl) (HS.old0 hzh)) ?_
  refine qs (.int .i64 (M.length : Int)) (by kernel_rfl) (by kernel_rfl) ?_
  refine qs (.int .i64 ((L.length : Int) + (M.length : Int))) (by kernel_rfl) (R_int (by kernel_rfl) (w64 (by omega))) ?_
  refine wpStill_nil ?_
  refine km0 (k1 := .i64) HS (((L.length : Int) + (M.length : Int)).toNat) [.int .i32 0] 4 (by kernel_rfl) (by kernel_rfl) (k_eq (k := .i64) (m := (L.length : Int) + (M.length : Int)) (by kernel_rfl) (by omega)) Tryd.underlying72 (by kernel_rfl) (by kernel_rfl) (by kernel_rfl) (by decide) (by omega) (by omega) ?_
  intro g5 W6 H_
  replace HS : St W (owns []) W6 [row (some ⟨g5, 0, none⟩) 0 (((L.length : Int) + (M.length : Int)).toNat) (ci .i32 ([])) 21 1] := H_.cast_ (by kernel_rfl)
  clear H_
  refine ql (.slice (some ⟨g5, 0, none⟩) 0 (((L.length : Int) + (M.length : Int)).toNat)) (by kernel_rfl) (by kernel_rfl) ?_
  refine wpList_nil ?_
  refine x_then ?_
  refine wp_seq ?_
  refine rg_still HS 9 (by kernel_rfl) (by kernel_rfl) ?_
  intro W7 H_ HK_
  simp only [List.take_succ_cons, List.take_zero, List.drop_succ_cons, List.drop_zero]
  replace HS : St W (owns []) W7 [row (some ⟨g5, 0, none⟩) 0 (((L.length : Int) + (M.length : Int)).toNat) (ci .i32 ([])) 21 1] := H_
  clear H_
  clear HK_
  refine qs (.pointer (some ⟨g, 0, none⟩)) (by kernel_rfl) (by kernel_rfl) ?_
  refine qs (.pointer (some ⟨g, 0, none⟩)) (by kernel_rfl) (by kernel_rfl) ?_
  refine qs (.pointer (some ⟨g, 0, none⟩)) (by kernel_rfl) (by kernel_rfl) ?_
  refine qs (.slice A L.length c) (by kernel_rfl) (R_load (p := ⟨g, 0, none⟩) (by kernel_rfl) (by kernel_rfl) (by kernel_rfl) (HS.old0 hzg)) ?_
  refine qs (.pointer (some ⟨h, 0, none⟩)) (by kernel_rfl) (by kernel_rfl) ?_
  refine qs (.pointer (some ⟨h, 0, none⟩)) (by kernel_rfl) (by kernel_rfl) ?_
  refine qs (.pointer (some ⟨h, 0, none⟩)) (by kernel_rfl) (by kernel_rfl) ?_
  refine qs (.slice B M.length c2) (by kernel_rfl) (R_load (p := ⟨h, 0, none⟩) (by kernel_rfl) (by kernel_rfl) (by kernel_rfl) (HS.old0 hzh)) ?_
  refine qs (.slice A L.length c) (by kernel_rfl) (by kernel_rfl) ?_
  refine wpStill_nil ?_
  refine ql (.slice B M.length c2) (by kernel_rfl) (by kernel_rfl) ?_
  refine wpList_nil ?_
  refine x_then ?_
  refine wp_seq ?_
  refine wp_block ?_
  refine wp_loop_ghost (fun kq a' w' => ∃ (J8 : Nat → Value) (out : List Int) (Ao : Option Addr) (co : Nat) (La : List Int) (Aa : Option Addr) (na : Nat) (ca : Nat) (Lb : List Int) (Ab : Option Addr) (nb : Nat) (cb : Nat) , a' = Fr ((.pointer (some ⟨g, 0, none⟩)) :: (.pointer (some ⟨h, 0, none⟩)) :: undef :: undef :: (.bool false) :: (.slice Ao out.length co) :: (.slice Aa na ca) :: (.slice Ab nb cb) :: undef :: (.pointer (some ⟨g, 0, none⟩)) :: (.bool false) :: (.bool false) :: (.pointer (some ⟨h, 0, none⟩)) :: (.bool false) :: (.bool false) :: (.pointer (some ⟨g, 0, none⟩)) :: (.pointer (some ⟨g, 0, none⟩)) :: (.pointer (some ⟨g, 0, none⟩)) :: (.slice A L.length c) :: (.int .i64 (L.length : Int)) :: (.pointer (some ⟨h, 0, none⟩)) :: (.pointer (some ⟨h, 0, none⟩)) :: (.pointer (some ⟨h, 0, none⟩)) :: (.slice B M.length c2) :: (.int .i64 (M.length : Int)) :: (.int .i64 ((L.length : Int) + (M.length : Int))) :: (.slice (some ⟨g5, 0, none⟩) 0 (((L.length : Int) + (M.length : Int)).toNat)) :: (.pointer (some ⟨g, 0, none⟩)) :: (.pointer (some ⟨g, 0, none⟩)) :: (.pointer (some ⟨g, 0, none⟩)) :: (.slice A L.length c) :: (.pointer (some ⟨h, 0, none⟩)) :: (.pointer (some ⟨h, 0, none⟩)) :: (.pointer (some ⟨h, 0, none⟩)) :: (.slice B M.length c2) :: ((J8 35)) :: ((J8 36)) :: ((J8 37)) :: ((J8 38)) :: ((J8 39)) :: ((J8 40)) :: ((J8 41)) :: ((J8 42)) :: ((J8 43)) :: ((J8 44)) :: ((J8 45)) :: ((J8 46)) :: ((J8 47)) :: ((J8 48)) :: ((J8 49)) :: ((J8 50)) :: ((J8 51)) :: ((J8 52)) :: ((J8 53)) :: ((J8 54)) :: ((J8 55)) :: ((J8 56)) :: ((J8 57)) :: ((J8 58)) :: ((J8 59)) :: ((J8 60)) :: ((J8 61)) :: ((J8 62)) :: ((J8 63)) :: ((J8 64)) :: ((J8 65)) :: ((J8 66)) :: ((J8 67)) :: ((J8 68)) :: ((J8 69)) :: ((J8 70)) :: ((J8 71)) :: ((J8 72)) :: ((J8 73)) :: ((J8 74)) :: ((J8 75)) :: ((J8 76)) :: ((J8 77)) :: ((J8 78)) :: ((J8 79)) :: ((J8 80)) :: ((J8 81)) :: ((J8 82)) :: ((J8 83)) :: ((J8 84)) :: undef :: undef :: undef :: undef :: undef :: undef :: undef :: undef :: undef :: undef :: undef :: undef :: undef :: undef :: undef :: undef :: undef :: undef :: []) ∧ kq = (na + nb) ∧ (MgP L M out La Lb) ∧ (Rd W Aa (ci .i32 La)) ∧ (na = La.length) ∧ (La.length ≤ ca) ∧ (Rd W Ab (ci .i32 Lb)) ∧ (nb = Lb.length) ∧ (Lb.length ≤ cb) ∧ St W (owns []) w' [row Ao out.length co (ci .i32 out) 21 1]) (L.length + M.length) ⟨(fun k_ : Nat => List.getD ((.pointer (some ⟨g, 0, none⟩)) :: (.pointer (some ⟨h, 0, none⟩)) :: undef :: undef :: (.bool false) :: (.slice (some ⟨g5, 0, none⟩) 0 (((L.length : Int) + (M.length : Int)).toNat)) :: (.slice A L.length c) :: (.slice B M.length c2) :: undef :: (.pointer (some ⟨g, 0, none⟩)) :: (.bool false) :: (.bool false) :: (.pointer (some ⟨h, 0, none⟩)) :: (.bool false) :: (.bool false) :: (.pointer (some ⟨g, 0, none⟩)) :: (.pointer (some ⟨g, 0, none⟩)) :: (.pointer (some ⟨g, 0, none⟩)) :: (.slice A L.length c) :: (.int .i64 (L.length : Int)) :: (.pointer (some ⟨h, 0, none⟩)) :: (.pointer (some ⟨h, 0, none⟩)) :: (.pointer (some ⟨h, 0, none⟩)) :: (.slice B M.length c2) :: (.int .i64 (M.length : Int)) :: (.int .i64 ((L.length : Int) + (M.length : Int))) :: (.slice (some ⟨g5, 0, none⟩) 0 (((L.length : Int) + (M.length : Int)).toNat)) :: (.pointer (some ⟨g, 0, none⟩)) :: (.pointer (some ⟨g, 0, none⟩)) :: (.pointer (some ⟨g, 0, none⟩)) :: (.slice A L.length c) :: (.pointer (some ⟨h, 0, none⟩)) :: (.pointer (some ⟨h, 0, none⟩)) :: (.pointer (some ⟨h, 0, none⟩)) :: (.slice B M.length c2) :: undef :: undef :: undef :: undef :: undef :: undef :: undef :: undef :: undef :: undef :: undef :: undef :: undef :: undef :: undef :: undef :: undef :: undef :: undef :: undef :: undef :: undef :: undef :: undef :: undef :: undef :: undef :: undef :: undef :: undef :: undef :: undef :: undef :: undef :: undef :: undef :: undef :: undef :: undef :: undef :: undef :: undef :: undef :: undef :: undef :: undef :: undef :: undef :: undef :: undef :: undef :: undef :: undef :: undef :: undef :: undef :: undef :: undef :: undef :: undef :: undef :: undef :: undef :: undef :: undef :: undef :: undef :: undef :: []) k_ undef), ([] : List Int), some ⟨g5, 0, none⟩, ((L.length : Int) + (M.length : Int)).toNat, L, A, L.length, c, M, B, M.length, c2, congrArg Fr (by kernel_rfl), rfl, (mg_start hs.1 hs2.1), hr2, rfl, (by omega), hr3, rfl, (by omega), HS⟩ ?_
  clear HS
  intro kq9 a' W10 hrel
  obtain ⟨J8, out, Ao, co, La, Aa, na, ca, Lb, Ab, nb, cb, rfl, hk, hP, hAa, hna, hca, hAb, hnb, hcb, HS⟩ := hrel
  have hml := mg_len hP
  refine wp_seq ?_
  refine wp_seq ?_
  refine wp_region_lit ?_
  refine ql (.slice Aa na ca) (by kernel_rfl) (by kernel_rfl) ?_
  refine ql (.int .i64 (na : Int)) (by kernel_rfl) (by kernel_rfl) ?_
  by_cases hc11 : (na : Int) > (0 : Int)
  · skip
    refine ql (.bool true) (by kernel_rfl) (R_bool (p := (na : Int) > (0 : Int)) (by kernel_rfl) (hc11)) ?_
    refine ql (.bool true) (by kernel_rfl) (by kernel_rfl) ?_
    refine ql (.slice Ab nb cb) (by kernel_rfl) (by kernel_rfl) ?_
    refine ql (.int .i64 (nb : Int)) (by kernel_rfl) (by kernel_rfl) ?_
    by_cases hc12 : (nb : Int) > (0 : Int)
    · skip
      refine ql (.bool true) (by kernel_rfl) (R_bool (p := (nb : Int) > (0 : Int)) (by kernel_rfl) (hc12)) ?_
      refine ql (.bool true) (by kernel_rfl) (by kernel_rfl) ?_
      refine wpList_nil ?_
      refine x_then ?_
      refine wp_cond_true (by kernel_rfl) ?_
      refine wp_skip ?_
      refine x_then ?_
      refine wp_block ?_
      refine wp_block ?_
      refine wp_seq ?_
      refine rg_still HS 7 (by kernel_rfl) (by kernel_rfl) ?_
      intro W13 H_ HK_
      simp only [List.take_succ_cons, List.take_zero, List.drop_succ_cons, List.drop_zero]
      replace HS : St W (owns []) W13 [row Ao out.length co (ci .i32 out) 21 1] := H_
      clear H_
      clear HK_
      refine qs (.slice Aa na ca) (by kernel_rfl) (by kernel_rfl) ?_
      obtain ⟨ad14, rfl⟩ := Rd.isSome_ hAa (by rw [ci_len]; omega)
      refine qs (.pointer (some (ad14.add 0))) (by kernel_rfl) (R_indexA1 (k := .i64) (p := ad14) (n := na) (c := ca) (i := 0) (by kernel_rfl) (by kernel_rfl) Tryd.underlying72 (by kernel_rfl) (by omega) (by omega)) ?_
      refine qs (.int .i32 (rdI La 0)) (by kernel_rfl) (R_load (p := ad14.add 0) (by kernel_rfl) (by kernel_rfl) (by kernel_rfl) (HS.old0 (hAa.at_ (ci_rd (i := 0) (by omega) (by omega))))) ?_
      refine qs (.slice Ab nb cb) (by kernel_rfl) (by kernel_rfl) ?_
      obtain ⟨ad15, rfl⟩ := Rd.isSome_ hAb (by rw [ci_len]; omega)
      refine qs (.pointer (some (ad15.add 0))) (by kernel_rfl) (R_indexA1 (k := .i64) (p := ad15) (n := nb) (c := cb) (i := 0) (by kernel_rfl) (by kernel_rfl) Tryd.underlying72 (by kernel_rfl) (by omega) (by omega)) ?_
      refine qs (.int .i32 (rdI Lb 0)) (by kernel_rfl) (R_load (p := ad15.add 0) (by kernel_rfl) (by kernel_rfl) (by kernel_rfl) (HS.old0 (hAb.at_ (ci_rd (i := 0) (by omega) (by omega))))) ?_
      by_cases hc16 : (rdI La 0) < (rdI Lb 0)
      · skip
        refine qs (.bool true) (by kernel_rfl) (R_bool (p := (rdI La 0) < (rdI Lb 0)) (by kernel_rfl) (hc16)) ?_
        refine wpStill_nil ?_
        refine ql (.bool true) (by kernel_rfl) (by kernel_rfl) ?_
        refine wpList_nil ?_
        refine x_then ?_
        refine wp_cond_true (by kernel_rfl) ?_
        refine t_start HS (row Ao out.length co (ci .i32 out) 21 1).own 10 (by kernel_rfl) rfl ?_
        intro W17 H_ HD_
        clear HD_
        replace HS : St W (owns []) W17 [row Ao out.length co (ci .i32 out) 21 1] := H_
        clear H_
        have HV := HS
        have HK := Kpt.refl (row Ao out.length co (ci .i32 out) 21 1).own W17
        refine t_q (n := 9) 0 (.slice Ao out.length co) rfl (by kernel_rfl) (by kernel_rfl) (fun _ _ _ h => h) (fun w' hk => (by kernel_rfl)) HK ?_
        refine t_q (n := 8) 1 (.slice (some ad14) na ca) rfl (by kernel_rfl) (by kernel_rfl) (fun _ _ _ h => h) (fun w' hk => (by kernel_rfl)) HK ?_
        refine t_q (n := 7) 2 (.pointer (some (ad14.add 0))) rfl (by kernel_rfl) (by kernel_rfl) (fun _ _ _ h => h) (fun w' hk => (R_indexA1 (k := .i64) (p := ad14) (n := na) (c := ca) (i := 0) (by kernel_rfl) (by kernel_rfl) Tryd.underlying72 (by kernel_rfl) (by omega) (by omega))) HK ?_
        refine t_q (n := 6) 3 (.int .i32 (rdI La 0)) rfl (by kernel_rfl) (by kernel_rfl) (fun _ _ _ h => h) (fun w' hk => (R_load (p := ad14.add 0) (by kernel_rfl) (by kernel_rfl) (by kernel_rfl) (HV.oldK (i := 0) rfl hk (hAa.at_ (ci_rd (i := 0) (by omega) (by omega)))))) HK ?_
        refine t_q (n := 5) 6 (.slice (some ad14) na ca) rfl (by kernel_rfl) (by kernel_rfl) (fun _ _ _ h => h) (fun w' hk => (by kernel_rfl)) HK ?_
        refine t_q (n := 4) 7 (.slice (cutA (some ad14) ca 1 1) (na - 1) (ca - 1)) rfl (by kernel_rfl) (by kernel_rfl) (fun _ _ _ h => h) (fun w' hk => (R_sliceL (k := .i64) (A := some ad14) (n := na) (c := ca) (i := 1) (by kernel_rfl) (by kernel_rfl) Tryd.underlying72 (by kernel_rfl) (by omega) (by omega))) HK ?_
        obtain ⟨g18, W19, hg_, hw_, H_, hk_⟩ := ex_lit HS 1 [.int .i32 (rdI La 0)] 21 1 rfl (by decide)
        refine t_e (n := 3) 4 (.slice (some ⟨g18, 0, none⟩) 1 1) rfl (by kernel_rfl) (by kernel_rfl) (by subst hg_; subst hw_; kernel_rfl) (HK.tr hk_) ?_
        replace HK := HK.tr hk_
        clear hk_
        clear hg_ hw_
        replace HS : St W (owns []) W19 [row (some ⟨g18, 0, none⟩) 1 1 (ci .i32 ([rdI La 0])) 21 1, row Ao out.length co (ci .i32 out) 21 1] := H_.cast_ (by kernel_rfl)
        clear H_
        obtain ⟨xs23, xs23_⟩ : ∃ z_ : List Int, z_ = out ++ ([rdI La 0]) := ⟨_, rfl⟩
        have xs23l : xs23.length = out.length + 1 := by rw [xs23_, List.length_append] <;> (try simp only [List.length_cons, List.length_nil]) <;> omega
        obtain ⟨A20, c21, W22, hrun_, H_, hk_⟩ := ex_append (P := Tryd.prog) (ty := 72) (ps := "sparse.go:67") (af := #[{ on := 0, ground := Go.Ground.data }, { on := 4, ground := Go.Ground.data }]) (gd := none) (dst := some 66) (t := 72) (s := (Go.Operand.tmp 61)) (x := (Go.Operand.tmp 65)) HS 1 rfl (Src.of_row HS (i := 0) rfl ci_one) [.int .i32 0] 4 xs23.length (ci .i32 xs23) (by omega) (by rw [xs23_, ci_app]) (by kernel_rfl) (by kernel_rfl) Tryd.underlying72 (by kernel_rfl) (by kernel_rfl) (by kernel_rfl) (by kernel_rfl) (by decide) (by omega) (by omega)
        refine t_e (n := 2) 5 (.slice A20 xs23.length c21) rfl (by kernel_rfl) (by kernel_rfl) hrun_ (HK.trN hk_) ?_
        replace HK := HK.trN hk_
        clear hk_ hrun_
        replace HS : St W (owns []) W22 [row (some ⟨g18, 0, none⟩) 1 1 (ci .i32 ([rdI La 0])) 21 1, row A20 xs23.length c21 (ci .i32 xs23) 21 1] := H_
        clear H_
        refine t_q (n := 1) 8 (.slice A20 xs23.length c21) rfl (by kernel_rfl) (by kernel_rfl) (fun _ _ _ h => h) (fun w' hk => (by kernel_rfl)) HK ?_
        refine t_q (n := 0) 9 (.slice (cutA (some ad14) ca 1 1) (na - 1) (ca - 1)) rfl (by kernel_rfl) (by kernel_rfl) (fun _ _ _ h => h) (fun w' hk => (by kernel_rfl)) HK ?_
        refine t_done (by kernel_rfl) ?_
        clear HV HK
        refine x_inb ?_
        refine x_inb ?_
        replace HS := HS.drop1
        refine x_then ?_
        exact ⟨(na - 1) + nb, by omega, (fun k_ : Nat => List.getD ((.pointer (some ⟨g, 0, none⟩)) :: (.pointer (some ⟨h, 0, none⟩)) :: undef :: undef :: (.bool false) :: (.slice A20 xs23.length c21) :: (.slice (cutA (some ad14) ca 1 1) (na - 1) (ca - 1)) :: (.slice (some ad15) nb cb) :: undef :: (.pointer (some ⟨g, 0, none⟩)) :: (.bool false) :: (.bool false) :: (.pointer (some ⟨h, 0, none⟩)) :: (.bool false) :: (.bool false) :: (.pointer (some ⟨g, 0, none⟩)) :: (.pointer (some ⟨g, 0, none⟩)) :: (.pointer (some ⟨g, 0, none⟩)) :: (.slice A L.length c) :: (.int .i64 (L.length : Int)) :: (.pointer (some ⟨h, 0, none⟩)) :: (.pointer (some ⟨h, 0, none⟩)) :: (.pointer (some ⟨h, 0, none⟩)) :: (.slice B M.length c2) :: (.int .i64 (M.length : Int)) :: (.int .i64 ((L.length : Int) + (M.length : Int))) :: (.slice (some ⟨g5, 0, none⟩) 0 (((L.length : Int) + (M.length : Int)).toNat)) :: (.pointer (some ⟨g, 0, none⟩)) :: (.pointer (some ⟨g, 0, none⟩)) :: (.pointer (some ⟨g, 0, none⟩)) :: (.slice A L.length c) :: (.pointer (some ⟨h, 0, none⟩)) :: (.pointer (some ⟨h, 0, none⟩)) :: (.pointer (some ⟨h, 0, none⟩)) :: (.slice B M.length c2) :: (.slice (some ad14) na ca) :: (.int .i64 (na : Int)) :: (.bool true) :: (.bool true) :: (.slice (some ad15) nb cb) :: (.int .i64 (nb : Int)) :: (.bool true) :: (.bool true) :: ((J8 43)) :: ((J8 44)) :: ((J8 45)) :: ((J8 46)) :: ((J8 47)) :: ((J8 48)) :: ((J8 49)) :: ((J8 50)) :: ((J8 51)) :: ((J8 52)) :: (.bool true) :: (.slice (some ad14) na ca) :: (.pointer (some (ad14.add 0))) :: (.int .i32 (rdI La 0)) :: (.slice (some ad15) nb cb) :: (.pointer (some (ad15.add 0))) :: (.int .i32 (rdI Lb 0)) :: (.bool true) :: (.slice Ao out.length co) :: (.slice (some ad14) na ca) :: (.pointer (some (ad14.add 0))) :: (.int .i32 (rdI La 0)) :: (.slice (some ⟨g18, 0, none⟩) 1 1) :: (.slice A20 xs23.length c21) :: (.slice (some ad14) na ca) :: (.slice (cutA (some ad14) ca 1 1) (na - 1) (ca - 1)) :: ((J8 69)) :: ((J8 70)) :: ((J8 71)) :: ((J8 72)) :: ((J8 73)) :: ((J8 74)) :: ((J8 75)) :: ((J8 76)) :: ((J8 77)) :: ((J8 78)) :: ((J8 79)) :: ((J8 80)) :: ((J8 81)) :: ((J8 82)) :: ((J8 83)) :: ((J8 84)) :: undef :: undef :: undef :: undef :: undef :: undef :: undef :: undef :: undef :: undef :: undef :: undef :: undef :: undef :: undef :: undef :: undef :: undef :: []) k_ undef), xs23, A20, c21, (La.drop 1), (cutA (some ad14) ca 1 1), (na - 1), (ca - 1), Lb, some ad15, nb, cb, congrArg Fr (by kernel_rfl), rfl, (by rw [xs23_]; exact mgs_l hP (by omega) (by omega) hc16), (rd_cut1 hAa (by omega) hca), (by rw [List.length_drop]; omega), (by rw [List.length_drop]; omega), hAb, hnb, hcb, HS⟩
      · skip
        refine qs (.bool false) (by kernel_rfl) (R_nbool (p := (rdI La 0) < (rdI Lb 0)) (by kernel_rfl) (hc16)) ?_
        refine wpStill_nil ?_
        refine ql (.bool false) (by kernel_rfl) (by kernel_rfl) ?_
        refine wpList_nil ?_
        refine x_then ?_
        refine wp_cond_false (by kernel_rfl) ?_
        refine wp_seq ?_
        refine rg_still HS 7 (by kernel_rfl) (by kernel_rfl) ?_
        intro W24 H_ HK_
        simp only [List.take_succ_cons, List.take_zero, List.drop_succ_cons, List.drop_zero]
        replace HS : St W (owns []) W24 [row Ao out.length co (ci .i32 out) 21 1] := H_
        clear H_
        clear HK_
        refine qs (.slice (some ad14) na ca) (by kernel_rfl) (by kernel_rfl) ?_
        refine qs (.pointer (some (ad14.add 0))) (by kernel_rfl) (R_indexA1 (k := .i64) (p := ad14) (n := na) (c := ca) (i := 0) (by kernel_rfl) (by kernel_rfl) Tryd.underlying72 (by kernel_rfl) (by omega) (by omega)) ?_
        refine qs (.int .i32 (rdI La 0)) (by kernel_rfl) (R_load (p := ad14.add 0) (by kernel_rfl) (by kernel_rfl) (by kernel_rfl) (HS.old0 (hAa.at_ (ci_rd (i := 0) (by omega) (by omega))))) ?_
        refine qs (.slice (some ad15) nb cb) (by kernel_rfl) (by kernel_rfl) ?_
        refine qs (.pointer (some (ad15.add 0))) (by kernel_rfl) (R_indexA1 (k := .i64) (p := ad15) (n := nb) (c := cb) (i := 0) (by kernel_rfl) (by kernel_rfl) Tryd.underlying72 (by kernel_rfl) (by omega) (by omega)) ?_
        refine qs (.int .i32 (rdI Lb 0)) (by kernel_rfl) (R_load (p := ad15.add 0) (by kernel_rfl) (by kernel_rfl) (by kernel_rfl) (HS.old0 (hAb.at_ (ci_rd (i := 0) (by omega) (by omega))))) ?_
        by_cases hc25 : (rdI La 0) > (rdI Lb 0)
        · skip
          refine qs (.bool true) (by kernel_rfl) (R_bool (p := (rdI La 0) > (rdI Lb 0)) (by kernel_rfl) (hc25)) ?_
          refine wpStill_nil ?_
          refine ql (.bool true) (by kernel_rfl) (by kernel_rfl) ?_
          refine wpList_nil ?_
          refine x_then ?_
          refine wp_cond_true (by kernel_rfl) ?_
          refine t_start HS (row Ao out.length co (ci .i32 out) 21 1).own 10 (by kernel_rfl) rfl ?_
          intro W26 H_ HD_
          clear HD_
          replace HS : St W (owns []) W26 [row Ao out.length co (ci .i32 out) 21 1] := H_
          clear H_
          have HV := HS
          have HK := Kpt.refl (row Ao out.length co (ci .i32 out) 21 1).own W26
          refine t_q (n := 9) 0 (.slice Ao out.length co) rfl (by kernel_rfl) (by kernel_rfl) (fun _ _ _ h => h) (fun w' hk => (by kernel_rfl)) HK ?_
          refine t_q (n := 8) 1 (.slice (some ad15) nb cb) rfl (by kernel_rfl) (by kernel_rfl) (fun _ _ _ h => h) (fun w' hk => (by kernel_rfl)) HK ?_
          refine t_q (n := 7) 2 (.pointer (some (ad15.add 0))) rfl (by kernel_rfl) (by kernel_rfl) (fun _ _ _ h => h) (fun w' hk => (R_indexA1 (k := .i64) (p := ad15) (n := nb) (c := cb) (i := 0) (by kernel_rfl) (by kernel_rfl) Tryd.underlying72 (by kernel_rfl) (by omega) (by omega))) HK ?_
          refine t_q (n := 6) 3 (.int .i32 (rdI Lb 0)) rfl (by kernel_rfl) (by kernel_rfl) (fun _ _ _ h => h) (fun w' hk => (R_load (p := ad15.add 0) (by kernel_rfl) (by kernel_rfl) (by kernel_rfl) (HV.oldK (i := 0) rfl hk (hAb.at_ (ci_rd (i := 0) (by omega) (by omega)))))) HK ?_
          refine t_q (n := 5) 6 (.slice (some ad15) nb cb) rfl (by kernel_rfl) (by kernel_rfl) (fun _ _ _ h => h) (fun w' hk => (by kernel_rfl)) HK ?_
          refine t_q (n := 4) 7 (.slice (cutA (some ad15) cb 1 1) (nb - 1) (cb - 1)) rfl (by kernel_rfl) (by kernel_rfl) (fun _ _ _ h => h) (fun w' hk => (R_sliceL (k := .i64) (A := some ad15) (n := nb) (c := cb) (i := 1) (by kernel_rfl) (by kernel_rfl) Tryd.underlying72 (by kernel_rfl) (by omega) (by omega))) HK ?_
          obtain ⟨g27, W28, hg_, hw_, H_, hk_⟩ := ex_lit HS 1 [.int .i32 (rdI Lb 0)] 21 1 rfl (by decide)
          refine t_e (n := 3) 4 (.slice (some ⟨g27, 0, none⟩) 1 1) rfl (by kernel_rfl) (by kernel_rfl) (by subst hg_; subst hw_; kernel_rfl) (HK.tr hk_) ?_
          replace HK := HK.tr hk_
          clear hk_
          clear hg_ hw_
          replace HS : St W (owns []) W28 [row (some ⟨g27, 0, none⟩) 1 1 (ci .i32 ([rdI Lb 0])) 21 1, row Ao out.length co (ci .i32 out) 21 1] := H_.cast_ (by kernel_rfl)
          clear H_
          obtain ⟨xs32, xs32_⟩ : ∃ z_ : List Int, z_ = out ++ ([rdI Lb 0]) := ⟨_, rfl⟩
          have xs32l : xs32.length = out.length + 1 := by rw [xs32_, List.length_append] <;> (try simp only [List.length_cons, List.length_nil]) <;> omega
          obtain ⟨A29, c30, W31, hrun_, H_, hk_⟩ := ex_append (P := Tryd.prog) (ty := 72) (ps := "sparse.go:69") (af := #[{ on := 0, ground := Go.Ground.data }, { on := 4, ground := Go.Ground.data }]) (gd := none) (dst := some 82) (t := 72) (s := (Go.Operand.tmp 77)) (x := (Go.Operand.tmp 81)) HS 1 rfl (Src.of_row HS (i := 0) rfl ci_one) [.int .i32 0] 4 xs32.length (ci .i32 xs32) (by omega) (by rw [xs32_, ci_app]) (by kernel_rfl) (by kernel_rfl) Tryd.underlying72 (by kernel_rfl) (by kernel_rfl) (by kernel_rfl) (by kernel_rfl) (by decide) (by omega) (by omega)
          refine t_e (n := 2) 5 (.slice A29 xs32.length c30) rfl (by kernel_rfl) (by kernel_rfl) hrun_ (HK.trN hk_) ?_
          replace HK := HK.trN hk_
          clear hk_ hrun_
          replace HS : St W (owns []) W31 [row (some ⟨g27, 0, none⟩) 1 1 (ci .i32 ([rdI Lb 0])) 21 1, row A29 xs32.length c30 (ci .i32 xs32) 21 1] := H_
          clear H_
          refine t_q (n := 1) 8 (.slice A29 xs32.length c30) rfl (by kernel_rfl) (by kernel_rfl) (fun _ _ _ h => h) (fun w' hk => (by kernel_rfl)) HK ?_
          refine t_q (n := 0) 9 (.slice (cutA (some ad15) cb 1 1) (nb - 1) (cb - 1)) rfl (by kernel_rfl) (by kernel_rfl) (fun _ _ _ h => h) (fun w' hk => (by kernel_rfl)) HK ?_
          refine t_done (by kernel_rfl) ?_
          clear HV HK
          refine x_inb ?_
          refine x_inb ?_
          replace HS := HS.drop1
          refine x_then ?_
          exact ⟨na + (nb - 1), by omega, (fun k_ : Nat => List.getD ((.pointer (some ⟨g, 0, none⟩)) :: (.pointer (some ⟨h, 0, none⟩)) :: undef :: undef :: (.bool false) :: (.slice A29 xs32.length c30) :: (.slice (some ad14) na ca) :: (.slice (cutA (some ad15) cb 1 1) (nb - 1) (cb - 1)) :: undef :: (.pointer (some ⟨g, 0, none⟩)) :: (.bool false) :: (.bool false) :: (.pointer (some ⟨h, 0, none⟩)) :: (.bool false) :: (.bool false) :: (.pointer (some ⟨g, 0, none⟩)) :: (.pointer (some ⟨g, 0, none⟩)) :: (.pointer (some ⟨g, 0, none⟩)) :: (.slice A L.length c) :: (.int .i64 (L.length : Int)) :: (.pointer (some ⟨h, 0, none⟩)) :: (.pointer (some ⟨h, 0, none⟩)) :: (.pointer (some ⟨h, 0, none⟩)) :: (.slice B M.length c2) :: (.int .i64 (M.length : Int)) :: (.int .i64 ((L.length : Int) + (M.length : Int))) :: (.slice (some ⟨g5, 0, none⟩) 0 (((L.length : Int) + (M.length : Int)).toNat)) :: (.pointer (some ⟨g, 0, none⟩)) :: (.pointer (some ⟨g, 0, none⟩)) :: (.pointer (some ⟨g, 0, none⟩)) :: (.slice A L.length c) :: (.pointer (some ⟨h, 0, none⟩)) :: (.pointer (some ⟨h, 0, none⟩)) :: (.pointer (some ⟨h, 0, none⟩)) :: (.slice B M.length c2) :: (.slice (some ad14) na ca) :: (.int .i64 (na : Int)) :: (.bool true) :: (.bool true) :: (.slice (some ad15) nb cb) :: (.int .i64 (nb : Int)) :: (.bool true) :: (.bool true) :: ((J8 43)) :: ((J8 44)) :: ((J8 45)) :: ((J8 46)) :: ((J8 47)) :: ((J8 48)) :: ((J8 49)) :: ((J8 50)) :: ((J8 51)) :: ((J8 52)) :: (.bool false) :: (.slice (some ad14) na ca) :: (.pointer (some (ad14.add 0))) :: (.int .i32 (rdI La 0)) :: (.slice (some ad15) nb cb) :: (.pointer (some (ad15.add 0))) :: (.int .i32 (rdI Lb 0)) :: (.bool false) :: ((J8 61)) :: ((J8 62)) :: ((J8 63)) :: ((J8 64)) :: ((J8 65)) :: ((J8 66)) :: ((J8 67)) :: ((J8 68)) :: (.bool true) :: (.slice (some ad14) na ca) :: (.pointer (some (ad14.add 0))) :: (.int .i32 (rdI La 0)) :: (.slice (some ad15) nb cb) :: (.pointer (some (ad15.add 0))) :: (.int .i32 (rdI Lb 0)) :: (.bool true) :: (.slice Ao out.length co) :: (.slice (some ad15) nb cb) :: (.pointer (some (ad15.add 0))) :: (.int .i32 (rdI Lb 0)) :: (.slice (some ⟨g27, 0, none⟩) 1 1) :: (.slice A29 xs32.length c30) :: (.slice (some ad15) nb cb) :: (.slice (cutA (some ad15) cb 1 1) (nb - 1) (cb - 1)) :: undef :: undef :: undef :: undef :: undef :: undef :: undef :: undef :: undef :: undef :: undef :: undef :: undef :: undef :: undef :: undef :: undef :: undef :: []) k_ undef), xs32, A29, c30, La, some ad14, na, ca, (Lb.drop 1), (cutA (some ad15) cb 1 1), (nb - 1), (cb - 1), congrArg Fr (by kernel_rfl), rfl, (by rw [xs32_]; exact mgs_r hP (by omega) (by omega) hc25), hAa, hna, hca, (rd_cut1 hAb (by omega) hcb), (by rw [List.length_drop]; omega), (by rw [List.length_drop]; omega), HS⟩
        · skip
          refine qs (.bool false) (by kernel_rfl) (R_nbool (p := (rdI La 0) > (rdI Lb 0)) (by kernel_rfl) (hc25)) ?_
          refine wpStill_nil ?_
          refine ql (.bool false) (by kernel_rfl) (by kernel_rfl) ?_
          refine wpList_nil ?_
          refine x_then ?_
          refine wp_cond_false (by kernel_rfl) ?_
          refine t_start HS (row Ao out.length co (ci .i32 out) 21 1).own 13 (by kernel_rfl) rfl ?_
          intro W33 H_ HD_
          clear HD_
          replace HS : St W (owns []) W33 [row Ao out.length co (ci .i32 out) 21 1] := H_
          clear H_
          have HV := HS
          have HK := Kpt.refl (row Ao out.length co (ci .i32 out) 21 1).own W33
          refine t_q (n := 12) 0 (.slice Ao out.length co) rfl (by kernel_rfl) (by kernel_rfl) (fun _ _ _ h => h) (fun w' hk => (by kernel_rfl)) HK ?_
          refine t_q (n := 11) 1 (.slice (some ad14) na ca) rfl (by kernel_rfl) (by kernel_rfl) (fun _ _ _ h => h) (fun w' hk => (by kernel_rfl)) HK ?_
          refine t_q (n := 10) 2 (.pointer (some (ad14.add 0))) rfl (by kernel_rfl) (by kernel_rfl) (fun _ _ _ h => h) (fun w' hk => (R_indexA1 (k := .i64) (p := ad14) (n := na) (c := ca) (i := 0) (by kernel_rfl) (by kernel_rfl) Tryd.underlying72 (by kernel_rfl) (by omega) (by omega))) HK ?_
          refine t_q (n := 9) 3 (.int .i32 (rdI La 0)) rfl (by kernel_rfl) (by kernel_rfl) (fun _ _ _ h => h) (fun w' hk => (R_load (p := ad14.add 0) (by kernel_rfl) (by kernel_rfl) (by kernel_rfl) (HV.oldK (i := 0) rfl hk (hAa.at_ (ci_rd (i := 0) (by omega) (by omega)))))) HK ?_
          refine t_q (n := 8) 6 (.slice (some ad14) na ca) rfl (by kernel_rfl) (by kernel_rfl) (fun _ _ _ h => h) (fun w' hk => (by kernel_rfl)) HK ?_
          refine t_q (n := 7) 7 (.slice (cutA (some ad14) ca 1 1) (na - 1) (ca - 1)) rfl (by kernel_rfl) (by kernel_rfl) (fun _ _ _ h => h) (fun w' hk => (R_sliceL (k := .i64) (A := some ad14) (n := na) (c := ca) (i := 1) (by kernel_rfl) (by kernel_rfl) Tryd.underlying72 (by kernel_rfl) (by omega) (by omega))) HK ?_
          refine t_q (n := 6) 8 (.slice (some ad15) nb cb) rfl (by kernel_rfl) (by kernel_rfl) (fun _ _ _ h => h) (fun w' hk => (by kernel_rfl)) HK ?_
          refine t_q (n := 5) 9 (.slice (cutA (some ad15) cb 1 1) (nb - 1) (cb - 1)) rfl (by kernel_rfl) (by kernel_rfl) (fun _ _ _ h => h) (fun w' hk => (R_sliceL (k := .i64) (A := some ad15) (n := nb) (c := cb) (i := 1) (by kernel_rfl) (by kernel_rfl) Tryd.underlying72 (by kernel_rfl) (by omega) (by omega))) HK ?_
          obtain ⟨g34, W35, hg_, hw_, H_, hk_⟩ := ex_lit HS 1 [.int .i32 (rdI La 0)] 21 1 rfl (by decide)
          refine t_e (n := 4) 4 (.slice (some ⟨g34, 0, none⟩) 1 1) rfl (by kernel_rfl) (by kernel_rfl) (by subst hg_; subst hw_; kernel_rfl) (HK.tr hk_) ?_
          replace HK := HK.tr hk_
          clear hk_
          clear hg_ hw_
          replace HS : St W (owns []) W35 [row (some ⟨g34, 0, none⟩) 1 1 (ci .i32 ([rdI La 0])) 21 1, row Ao out.length co (ci .i32 out) 21 1] := H_.cast_ (by kernel_rfl)
          clear H_
          obtain ⟨xs39, xs39_⟩ : ∃ z_ : List Int, z_ = out ++ ([rdI La 0]) := ⟨_, rfl⟩
          have xs39l : xs39.length = out.length + 1 := by rw [xs39_, List.length_append] <;> (try simp only [List.length_cons, List.length_nil]) <;> omega
          obtain ⟨A36, c37, W38, hrun_, H_, hk_⟩ := ex_append (P := Tryd.prog) (ty := 72) (ps := "sparse.go:71") (af := #[{ on := 0, ground := Go.Ground.data }, { on := 4, ground := Go.Ground.data }]) (gd := none) (dst := some 48) (t := 72) (s := (Go.Operand.tmp 43)) (x := (Go.Operand.tmp 47)) HS 1 rfl (Src.of_row HS (i := 0) rfl ci_one) [.int .i32 0] 4 xs39.length (ci .i32 xs39) (by omega) (by rw [xs39_, ci_app]) (by kernel_rfl) (by kernel_rfl) Tryd.underlying72 (by kernel_rfl) (by kernel_rfl) (by kernel_rfl) (by kernel_rfl) (by decide) (by omega) (by omega)
          refine t_e (n := 3) 5 (.slice A36 xs39.length c37) rfl (by kernel_rfl) (by kernel_rfl) hrun_ (HK.trN hk_) ?_
          replace HK := HK.trN hk_
          clear hk_ hrun_
          replace HS : St W (owns []) W38 [row (some ⟨g34, 0, none⟩) 1 1 (ci .i32 ([rdI La 0])) 21 1, row A36 xs39.length c37 (ci .i32 xs39) 21 1] := H_
          clear H_
          refine t_q (n := 2) 10 (.slice A36 xs39.length c37) rfl (by kernel_rfl) (by kernel_rfl) (fun _ _ _ h => h) (fun w' hk => (by kernel_rfl)) HK ?_
          refine t_q (n := 1) 11 (.slice (cutA (some ad14) ca 1 1) (na - 1) (ca - 1)) rfl (by kernel_rfl) (by kernel_rfl) (fun _ _ _ h => h) (fun w' hk => (by kernel_rfl)) HK ?_
          refine t_q (n := 0) 12 (.slice (cutA (some ad15) cb 1 1) (nb - 1) (cb - 1)) rfl (by kernel_rfl) (by kernel_rfl) (fun _ _ _ h => h) (fun w' hk => (by kernel_rfl)) HK ?_
          refine t_done (by kernel_rfl) ?_
          clear HV HK
          refine x_inb ?_
          refine x_inb ?_
          replace HS := HS.drop1
          refine x_then ?_
          exact ⟨(na - 1) + (nb - 1), by omega, (fun k_ : Nat => List.getD ((.pointer (some ⟨g, 0, none⟩)) :: (.pointer (some ⟨h, 0, none⟩)) :: undef :: undef :: (.bool false) :: (.slice A36 xs39.length c37) :: (.slice (cutA (some ad14) ca 1 1) (na - 1) (ca - 1)) :: (.slice (cutA (some ad15) cb 1 1) (nb - 1) (cb - 1)) :: undef :: (.pointer (some ⟨g, 0, none⟩)) :: (.bool false) :: (.bool false) :: (.pointer (some ⟨h, 0, none⟩)) :: (.bool false) :: (.bool false) :: (.pointer (some ⟨g, 0, none⟩)) :: (.pointer (some ⟨g, 0, none⟩)) :: (.pointer (some ⟨g, 0, none⟩)) :: (.slice A L.length c) :: (.int .i64 (L.length : Int)) :: (.pointer (some ⟨h, 0, none⟩)) :: (.pointer (some ⟨h, 0, none⟩)) :: (.pointer (some ⟨h, 0, none⟩)) :: (.slice B M.length c2) :: (.int .i64 (M.length : Int)) :: (.int .i64 ((L.length : Int) + (M.length : Int))) :: (.slice (some ⟨g5, 0, none⟩) 0 (((L.length : Int) + (M.length : Int)).toNat)) :: (.pointer (some ⟨g, 0, none⟩)) :: (.pointer (some ⟨g, 0, none⟩)) :: (.pointer (some ⟨g, 0, none⟩)) :: (.slice A L.length c) :: (.pointer (some ⟨h, 0, none⟩)) :: (.pointer (some ⟨h, 0, none⟩)) :: (.pointer (some ⟨h, 0, none⟩)) :: (.slice B M.length c2) :: (.slice (some ad14) na ca) :: (.int .i64 (na : Int)) :: (.bool true) :: (.bool true) :: (.slice (some ad15) nb cb) :: (.int .i64 (nb : Int)) :: (.bool true) :: (.bool true) :: (.slice Ao out.length co) :: (.slice (some ad14) na ca) :: (.pointer (some (ad14.add 0))) :: (.int .i32 (rdI La 0)) :: (.slice (some ⟨g34, 0, none⟩) 1 1) :: (.slice A36 xs39.length c37) :: (.slice (some ad14) na ca) :: (.slice (cutA (some ad14) ca 1 1) (na - 1) (ca - 1)) :: (.slice (some ad15) nb cb) :: (.slice (cutA (some ad15) cb 1 1) (nb - 1) (cb - 1)) :: (.bool false) :: (.slice (some ad14) na ca) :: (.pointer (some (ad14.add 0))) :: (.int .i32 (rdI La 0)) :: (.slice (some ad15) nb cb) :: (.pointer (some (ad15.add 0))) :: (.int .i32 (rdI Lb 0)) :: (.bool false) :: ((J8 61)) :: ((J8 62)) :: ((J8 63)) :: ((J8 64)) :: ((J8 65)) :: ((J8 66)) :: ((J8 67)) :: ((J8 68)) :: (.bool false) :: (.slice (some ad14) na ca) :: (.pointer (some (ad14.add 0))) :: (.int .i32 (rdI La 0)) :: (.slice (some ad15) nb cb) :: (.pointer (some (ad15.add 0))) :: (.int .i32 (rdI Lb 0)) :: (.bool false) :: ((J8 77)) :: ((J8 78)) :: ((J8 79)) :: ((J8 80)) :: ((J8 81)) :: ((J8 82)) :: ((J8 83)) :: ((J8 84)) :: undef :: undef :: undef :: undef :: undef :: undef :: undef :: undef :: undef :: undef :: undef :: undef :: undef :: undef :: undef :: undef :: undef :: undef :: []) k_ undef), xs39, A36, c37, (La.drop 1), (cutA (some ad14) ca 1 1), (na - 1), (ca - 1), (Lb.drop 1), (cutA (some ad15) cb 1 1), (nb - 1), (cb - 1), congrArg Fr (by kernel_rfl), rfl, (by rw [xs39_]; exact mgs_b hP (by omega) (by omega) hc16 hc25), (rd_cut1 hAa (by omega) hca), (by rw [List.length_drop]; omega), (by rw [List.length_drop]; omega), (rd_cut1 hAb (by omega) hcb), (by rw [List.length_drop]; omega), (by rw [List.length_drop]; omega), HS⟩
    · skip
      refine ql (.bool false) (by kernel_rfl) (R_nbool (p := (nb : Int) > (0 : Int)) (by kernel_rfl) (hc12)) ?_
      refine ql (.bool false) (by kernel_rfl) (by kernel_rfl) ?_
      refine wpList_nil ?_
      refine x_then ?_
      refine wp_cond_false (by kernel_rfl) ?_
      refine wp_exit ?_
      refine x_thenE ?_
      refine x_thenE ?_
      refine x_hit ?_
      refine x_then ?_
      refine wp_seq ?_
      have hmt := mg_end hP hs.1 (by first | exact .inl (List.eq_nil_of_length_eq_zero (by omega)) | exact .inr (List.eq_nil_of_length_eq_zero (by omega)))
      refine wp_region_lit ?_
      refine ql (.slice Ao out.length co) (by kernel_rfl) (by kernel_rfl) ?_
      refine ql (.slice Aa na ca) (by kernel_rfl) (by kernel_rfl) ?_
      obtain ⟨xs43, xs43_⟩ : ∃ z_ : List Int, z_ = out ++ La := ⟨_, rfl⟩
      have xs43l : xs43.length = out.length + na := by rw [xs43_, List.length_append] <;> (try simp only [List.length_cons, List.length_nil]) <;> omega
      refine ka1 HS 0 rfl (Src.of_rd' (n := na) (c := ca) (z := 1) (hAa.old0 HS) (by rw [ci_len]; omega) (by decide) ci_one) [.int .i32 0] 4 xs43.length (ci .i32 xs43) (by omega) (by rw [xs43_, ci_app]) (by kernel_rfl) (by kernel_rfl) (by kernel_rfl) Tryd.underlying72 (by kernel_rfl) (by kernel_rfl) (by kernel_rfl) (by kernel_rfl) (by decide) (by omega) (by omega) ?_
      intro A40 c41 W42 H_
      replace HS : St W (owns []) W42 [row A40 xs43.length c41 (ci .i32 xs43) 21 1] := H_
      clear H_
      refine ql (.slice Ab nb cb) (by kernel_rfl) (by kernel_rfl) ?_
      obtain ⟨xs47, xs47_⟩ : ∃ z_ : List Int, z_ = xs43 ++ Lb := ⟨_, rfl⟩
      have xs47l : xs47.length = xs43.length + nb := by rw [xs47_, List.length_append] <;> (try simp only [List.length_cons, List.length_nil]) <;> omega
      refine ka1 HS 0 rfl (Src.of_rd' (n := nb) (c := cb) (z := 1) (hAb.old0 HS) (by rw [ci_len]; omega) (by decide) ci_one) [.int .i32 0] 4 xs47.length (ci .i32 xs47) (by omega) (by rw [xs47_, ci_app]) (by kernel_rfl) (by kernel_rfl) (by kernel_rfl) Tryd.underlying72 (by kernel_rfl) (by kernel_rfl) (by kernel_rfl) (by kernel_rfl) (by decide) (by omega) (by omega) ?_
      intro A44 c45 W46 H_
      replace HS : St W (owns []) W46 [row A44 xs47.length c45 (ci .i32 xs47) 21 1] := H_
      clear H_
      refine ql (.slice A44 xs47.length c45) (by kernel_rfl) (by kernel_rfl) ?_
      refine wpList_nil ?_
      refine x_then ?_
      refine wp_seq ?_
      refine wp_region_lit ?_
      refine ql (.slice A44 xs47.length c45) (by kernel_rfl) (by kernel_rfl) ?_
      refine ql (.int .i64 (xs47.length : Int)) (by kernel_rfl) (by kernel_rfl) ?_
      refine ql (.pointer (some ⟨g, 0, none⟩)) (by kernel_rfl) (by kernel_rfl) ?_
      refine ql (.pointer (some ⟨g, 0, none⟩)) (by kernel_rfl) (by kernel_rfl) ?_
      refine ql (.pointer (some ⟨g, 0, none⟩)) (by kernel_rfl) (by kernel_rfl) ?_
      refine ql (.slice A L.length c) (by kernel_rfl) (R_load (p := ⟨g, 0, none⟩) (by kernel_rfl) (by kernel_rfl) (by kernel_rfl) (HS.old0 hzg)) ?_
      refine ql (.int .i64 (L.length : Int)) (by kernel_rfl) (by kernel_rfl) ?_
      by_cases hc48 : (xs47.length : Int) > (L.length : Int)
      · skip
        refine ql (.bool true) (by kernel_rfl) (R_bool (p := (xs47.length : Int) > (L.length : Int)) (by kernel_rfl) (hc48)) ?_
        refine ql (.bool true) (by kernel_rfl) (by kernel_rfl) ?_
        refine wpList_nil ?_
        refine x_then ?_
        refine wp_seq ?_
        replace HS : St W M_ W46 [row A44 xs47.length c45 (ci .i32 xs47) 21 1, blk g [.slice A L.length c] 74, row A L.length c (ci .i32 L) 21 1, blk h [.slice B M.length c2] 74, row B M.length c2 (ci .i32 M) 21 1] := HB1.join (F := []) (G := [row A44 xs47.length c45 (ci .i32 xs47) 21 1]) HS
        refine wp_region_lit ?_
        refine ql (.pointer (some ⟨g, 0, none⟩)) (by kernel_rfl) (by kernel_rfl) ?_
        refine ql (.slice A44 xs47.length c45) (by kernel_rfl) (by kernel_rfl) ?_
        refine ql (.pointer (some ⟨g, 0, none⟩)) (by kernel_rfl) (by kernel_rfl) ?_
        refine ql (.pointer (some ⟨g, 0, none⟩)) (by kernel_rfl) (by kernel_rfl) ?_
        refine ks (v := .slice A44 xs47.length c45) HS 1 rfl (0) [.slice A44 xs47.length c45] (by kernel_rfl) (by kernel_rfl) (by kernel_rfl) (by kernel_rfl) (by kernel_rfl) (one_ (by kernel_rfl)) (Nat.le_of_ble_eq_true rfl) rfl ?_
        intro W49 H_
        replace HS : St W M_ W49 [row A44 xs47.length c45 (ci .i32 xs47) 21 1, blk g [.slice A44 xs47.length c45] 74, row A L.length c (ci .i32 L) 21 1, blk h [.slice B M.length c2] 74, row B M.length c2 (ci .i32 M) 21 1] := H_
        clear H_
        refine wpList_nil ?_
        refine x_then ?_
        refine wp_seq ?_
        refine wp_region_lit ?_
        refine ql (.bool true) (by kernel_rfl) (by kernel_rfl) ?_
        refine ql (.bool true) (by kernel_rfl) (by kernel_rfl) ?_
        refine wpList_nil ?_
        refine x_then ?_
        refine wp_ret ?_
        refine ret_ (.bool true) (by kernel_rfl) ?_
        replace HS : St W M_ W49 [blk g [.slice A44 xs47.length c45] 74, row A44 xs47.length c45 (ci .i32 xs47) 21 1, blk h [.slice B M.length c2] 74, row B M.length c2 (ci .i32 M) 21 1] := St.tail (F := [row A L.length c (ci .i32 L) 21 1]) (HS.perm (perm_ [2, 1, 0, 3, 4] (by kernel_rfl) rfl))
        have hq : xs47 = uni L M := by rw [xs47_, xs43_]; exact hmt
        rw [hq] at HS
        have hb : newB L M = true := by rw [newB_len hs2.1, ← hq]; exact decide_eq_true (by omega)
        exact ⟨_, _, by rw [hb], HS⟩
      · skip
        refine ql (.bool false) (by kernel_rfl) (R_nbool (p := (xs47.length : Int) > (L.length : Int)) (by kernel_rfl) (hc48)) ?_
        refine ql (.bool false) (by kernel_rfl) (by kernel_rfl) ?_
        refine wpList_nil ?_
        refine x_then ?_
        refine wp_seq ?_
        replace HS : St W M_ W46 [row A44 xs47.length c45 (ci .i32 xs47) 21 1, blk g [.slice A L.length c] 74, row A L.length c (ci .i32 L) 21 1, blk h [.slice B M.length c2] 74, row B M.length c2 (ci .i32 M) 21 1] := HB1.join (F := []) (G := [row A44 xs47.length c45 (ci .i32 xs47) 21 1]) HS
        refine wp_region_lit ?_
        refine ql (.pointer (some ⟨g, 0, none⟩)) (by kernel_rfl) (by kernel_rfl) ?_
        refine ql (.slice A44 xs47.length c45) (by kernel_rfl) (by kernel_rfl) ?_
        refine ql (.pointer (some ⟨g, 0, none⟩)) (by kernel_rfl) (by kernel_rfl) ?_
        refine ql (.pointer (some ⟨g, 0, none⟩)) (by kernel_rfl) (by kernel_rfl) ?_
        refine ks (v := .slice A44 xs47.length c45) HS 1 rfl (0) [.slice A44 xs47.length c45] (by kernel_rfl) (by kernel_rfl) (by kernel_rfl) (by kernel_rfl) (by kernel_rfl) (one_ (by kernel_rfl)) (Nat.le_of_ble_eq_true rfl) rfl ?_
        intro W50 H_
        replace HS : St W M_ W50 [row A44 xs47.length c45 (ci .i32 xs47) 21 1, blk g [.slice A44 xs47.length c45] 74, row A L.length c (ci .i32 L) 21 1, blk h [.slice B M.length c2] 74, row B M.length c2 (ci .i32 M) 21 1] := H_
        clear H_
        refine wpList_nil ?_
        refine x_then ?_
        refine wp_seq ?_
        refine wp_region_lit ?_
        refine ql (.bool false) (by kernel_rfl) (by kernel_rfl) ?_
        refine ql (.bool false) (by kernel_rfl) (by kernel_rfl) ?_
        refine wpList_nil ?_
        refine x_then ?_
        refine wp_ret ?_
        refine ret_ (.bool false) (by kernel_rfl) ?_
        replace HS : St W M_ W50 [blk g [.slice A44 xs47.length c45] 74, row A44 xs47.length c45 (ci .i32 xs47) 21 1, blk h [.slice B M.length c2] 74, row B M.length c2 (ci .i32 M) 21 1] := St.tail (F := [row A L.length c (ci .i32 L) 21 1]) (HS.perm (perm_ [2, 1, 0, 3, 4] (by kernel_rfl) rfl))
        have hq : xs47 = uni L M := by rw [xs47_, xs43_]; exact hmt
        rw [hq] at HS
        have hb : newB L M = false := by rw [newB_len hs2.1, ← hq]; exact decide_eq_false (by omega)
        exact ⟨_, _, by rw [hb], HS⟩
  · skip
    refine ql (.bool false) (by kernel_rfl) (R_nbool (p := (na : Int) > (0 : Int)) (by kernel_rfl) (hc11)) ?_
    refine ql (.bool false) (by kernel_rfl) (by kernel_rfl) ?_
    refine qln (by kernel_rfl) ?_
    refine qln (by kernel_rfl) ?_
    refine qln (by kernel_rfl) ?_
    refine ql (.bool false) (by kernel_rfl) (by kernel_rfl) ?_
    refine wpList_nil ?_
    refine x_then ?_
    refine wp_cond_false (by kernel_rfl) ?_
    refine wp_exit ?_
    refine x_thenE ?_
    refine x_thenE ?_
    refine x_hit ?_
    refine x_then ?_
    refine wp_seq ?_
    have hmt := mg_end hP hs.1 (by first | exact .inl (List.eq_nil_of_length_eq_zero (by omega)) | exact .inr (List.eq_nil_of_length_eq_zero (by omega)))
    refine wp_region_lit ?_
    refine ql (.slice Ao out.length co) (by kernel_rfl) (by kernel_rfl) ?_
    refine ql (.slice Aa na ca) (by kernel_rfl) (by kernel_rfl) ?_
    obtain ⟨xs54, xs54_⟩ : ∃ z_ : List Int, z_ = out ++ La := ⟨_, rfl⟩
    have xs54l : xs54.length = out.length + na := by rw [xs54_, List.length_append] <;> (try simp only [List.length_cons, List.length_nil]) <;> omega
    refine ka1 HS 0 rfl (Src.of_rd' (n := na) (c := ca) (z := 1) (hAa.old0 HS) (by rw [ci_len]; omega) (by decide) ci_one) [.int .i32 0] 4 xs54.length (ci .i32 xs54) (by omega) (by rw [xs54_, ci_app]) (by kernel_rfl) (by kernel_rfl) (by kernel_rfl) Tryd.underlying72 (by kernel_rfl) (by kernel_rfl) (by kernel_rfl) (by kernel_rfl) (by decide) (by omega) (by omega) ?_
    intro A51 c52 W53 H_
    replace HS : St W (owns []) W53 [row A51 xs54.length c52 (ci .i32 xs54) 21 1] := H_
    clear H_
    refine ql (.slice Ab nb cb) (by kernel_rfl) (by kernel_rfl) ?_
    obtain ⟨xs58, xs58_⟩ : ∃ z_ : List Int, z_ = xs54 ++ Lb := ⟨_, rfl⟩
    have xs58l : xs58.length = xs54.length + nb := by rw [xs58_, List.length_append] <;> (try simp only [List.length_cons, List.length_nil]) <;> omega
    refine ka1 HS 0 rfl (Src.of_rd' (n := nb) (c := cb) (z := 1) (hAb.old0 HS) (by rw [ci_len]; omega) (by decide) ci_one) [.int .i32 0] 4 xs58.length (ci .i32 xs58) (by omega) (by rw [xs58_, ci_app]) (by kernel_rfl) (by kernel_rfl) (by kernel_rfl) Tryd.underlying72 (by kernel_rfl) (by kernel_rfl) (by kernel_rfl) (by kernel_rfl) (by decide) (by omega) (by omega) ?_
    intro A55 c56 W57 H_
    replace HS : St W (owns []) W57 [row A55 xs58.length c56 (ci .i32 xs58) 21 1] := H_
    clear H_
    refine ql (.slice A55 xs58.length c56) (by kernel_rfl) (by kernel_rfl) ?_
    refine wpList_nil ?_
    refine x_then ?_
    refine wp_seq ?_
    refine wp_region_lit ?_
    refine ql (.slice A55 xs58.length c56) (by kernel_rfl) (by kernel_rfl) ?_
    refine ql (.int .i64 (xs58.length : Int)) (by kernel_rfl) (by kernel_rfl) ?_
    refine ql (.pointer (some ⟨g, 0, none⟩)) (by kernel_rfl) (by kernel_rfl) ?_
    refine ql (.pointer (some ⟨g, 0, none⟩)) (by kernel_rfl) (by kernel_rfl) ?_
    refine ql (.pointer (some ⟨g, 0, none⟩)) (by kernel_rfl) (by kernel_rfl) ?_
    refine ql (.slice A L.length c) (by kernel_rfl) (R_load (p := ⟨g, 0, none⟩) (by kernel_rfl) (by kernel_rfl) (by kernel_rfl) (HS.old0 hzg)) ?_
    refine ql (.int .i64 (L.length : Int)) (by kernel_rfl) (by kernel_rfl) ?_
    by_cases hc59 : (xs58.length : Int) > (L.length : Int)
    · skip
      refine ql (.bool true) (by kernel_rfl) (R_bool (p := (xs58.length : Int) > (L.length : Int)) (by kernel_rfl) (hc59)) ?_
      refine ql (.bool true) (by kernel_rfl) (by kernel_rfl) ?_
      refine wpList_nil ?_
      refine x_then ?_
      refine wp_seq ?_
      replace HS : St W M_ W57 [row A55 xs58.length c56 (ci .i32 xs58) 21 1, blk g [.slice A L.length c] 74, row A L.length c (ci .i32 L) 21 1, blk h [.slice B M.length c2] 74, row B M.length c2 (ci .i32 M) 21 1] := HB1.join (F := []) (G := [row A55 xs58.length c56 (ci .i32 xs58) 21 1]) HS
      refine wp_region_lit ?_
      refine ql (.pointer (some ⟨g, 0, none⟩)) (by kernel_rfl) (by kernel_rfl) ?_
      refine ql (.slice A55 xs58.length c56) (by kernel_rfl) (by kernel_rfl) ?_
      refine ql (.pointer (some ⟨g, 0, none⟩)) (by kernel_rfl) (by kernel_rfl) ?_
      refine ql (.pointer (some ⟨g, 0, none⟩)) (by kernel_rfl) (by kernel_rfl) ?_
      refine ks (v := .slice A55 xs58.length c56) HS 1 rfl (0) [.slice A55 xs58.length c56] (by kernel_rfl) (by kernel_rfl) (by kernel_rfl) (by kernel_rfl) (by kernel_rfl) (one_ (by kernel_rfl)) (Nat.le_of_ble_eq_true rfl) rfl ?_
      intro W60 H_
      replace HS : St W M_ W60 [row A55 xs58.length c56 (ci .i32 xs58) 21 1, blk g [.slice A55 xs58.length c56] 74, row A L.length c (ci .i32 L) 21 1, blk h [.slice B M.length c2] 74, row B M.length c2 (ci .i32 M) 21 1] := H_
      clear H_
      refine wpList_nil ?_
      refine x_then ?_
      refine wp_seq ?_
      refine wp_region_lit ?_
      refine ql (.bool true) (by kernel_rfl) (by kernel_rfl) ?_
      refine ql (.bool true) (by kernel_rfl) (by kernel_rfl) ?_
      refine wpList_nil ?_
      refine x_then ?_
      refine wp_ret ?_
      refine ret_ (.bool true) (by kernel_rfl) ?_
      replace HS : St W M_ W60 [blk g [.slice A55 xs58.length c56] 74, row A55 xs58.length c56 (ci .i32 xs58) 21 1, blk h [.slice B M.length c2] 74, row B M.length c2 (ci .i32 M) 21 1] := St.tail (F := [row A L.length c (ci .i32 L) 21 1]) (HS.perm (perm_ [2, 1, 0, 3, 4] (by kernel_rfl) rfl))
      have hq : xs58 = uni L M := by rw [xs58_, xs54_]; exact hmt
      rw [hq] at HS
      have hb : newB L M = true := by rw [newB_len hs2.1, ← hq]; exact decide_eq_true (by omega)
      exact ⟨_, _, by rw [hb], HS⟩
    · skip
      refine ql (.bool false) (by kernel_rfl) (R_nbool (p := (xs58.length : Int) > (L.length : Int)) (by kernel_rfl) (hc59)) ?_
      refine ql (.bool false) (by kernel_rfl) (by kernel_rfl) ?_
      refine wpList_nil ?_
      refine x_then ?_
      refine wp_seq ?_
      replace HS : St W M_ W57 [row A55 xs58.length c56 (ci .i32 xs58) 21 1, blk g [.slice A L.length c] 74, row A L.length c (ci .i32 L) 21 1, blk h [.slice B M.length c2] 74, row B M.length c2 (ci .i32 M) 21 1] := HB1.join (F := []) (G := [row A55 xs58.length c56 (ci .i32 xs58) 21 1]) HS
      refine wp_region_lit ?_
      refine ql (.pointer (some ⟨g, 0, none⟩)) (by kernel_rfl) (by kernel_rfl) ?_
      refine ql (.slice A55 xs58.length c56) (by kernel_rfl) (by kernel_rfl) ?_
      refine ql (.pointer (some ⟨g, 0, none⟩)) (by kernel_rfl) (by kernel_rfl) ?_
      refine ql (.pointer (some ⟨g, 0, none⟩)) (by kernel_rfl) (by kernel_rfl) ?_
      refine ks (v := .slice A55 xs58.length c56) HS 1 rfl (0) [.slice A55 xs58.length c56] (by kernel_rfl) (by kernel_rfl) (by kernel_rfl) (by kernel_rfl) (by kernel_rfl) (one_ (by kernel_rfl)) (Nat.le_of_ble_eq_true rfl) rfl ?_
      intro W61 H_
      replace HS : St W M_ W61 [row A55 xs58.length c56 (ci .i32 xs58) 21 1, blk g [.slice A55 xs58.length c56] 74, row A L.length c (ci .i32 L) 21 1, blk h [.slice B M.length c2] 74, row B M.length c2 (ci .i32 M) 21 1] := H_
      clear H_
      refine wpList_nil ?_
      refine x_then ?_
      refine wp_seq ?_
      refine wp_region_lit ?_
      refine ql (.bool false) (by kernel_rfl) (by kernel_rfl) ?_
      refine ql (.bool false) (by kernel_rfl) (by kernel_rfl) ?_
      refine wpList_nil ?_
      refine x_then ?_
      refine wp_ret ?_
      refine ret_ (.bool false) (by kernel_rfl) ?_
      replace HS : St W M_ W61 [blk g [.slice A55 xs58.length c56] 74, row A55 xs58.length c56 (ci .i32 xs58) 21 1, blk h [.slice B M.length c2] 74, row B M.length c2 (ci .i32 M) 21 1] := St.tail (F := [row A L.length c (ci .i32 L) 21 1]) (HS.perm (perm_ [2, 1, 0, 3, 4] (by kernel_rfl) rfl))
      have hq : xs58 = uni L M := by rw [xs58_, xs54_]; exact hmt
      rw [hq] at HS
      have hb : newB L M = false := by rw [newB_len hs2.1, ← hq]; exact decide_eq_false (by omega)
      exact ⟨_, _, by rw [hb], HS⟩

set_option maxRecDepth 100000 in
set_option maxHeartbeats 1000000 in
theorem sall (g : Nat) (W : World) : Calls Tryd.prog 43 #[.pointer (some ⟨g, 0, none⟩)] W fun e W' => ∃ b, e = .returned (.func (.func 53) #[] #[.pointer (some ⟨b, 0, none⟩)]) ∧ St W (owns []) W' [blk b [.pointer (some ⟨g, 0, none⟩)] 50] := by
  have HS : St W (owns []) W [] := St.start W _
  refine calls_enter [.pointer (some ⟨g, 0, none⟩), undef, undef, undef] Tryd.func43 rfl (by kernel_rfl) ?_
  refine wp_seq ?_
  refine wp_region_lit ?_
  refine kb HS [.pointer (some ⟨g, 0, none⟩)] 50 (fun g => .pointer (some ⟨g, 0, none⟩)) (by kernel_rfl) (by kernel_rfl) ?_
  intro g1 W2 H_
  replace HS : St W (owns []) W2 [blk g1 [.pointer (some ⟨g, 0, none⟩)] 50] := H_
  clear H_
  refine ql (.nilFunc) (by kernel_rfl) (by kernel_rfl) ?_
  refine wpList_nil ?_
  refine x_then ?_
  refine wp_seq ?_
  refine wp_region_lit ?_
  refine ql (.func (.func 53) #[] #[.pointer (some ⟨g1, 0, none⟩)]) (by kernel_rfl) (by kernel_rfl) ?_
  refine ql (.func (.func 53) #[] #[.pointer (some ⟨g1, 0, none⟩)]) (by kernel_rfl) (by kernel_rfl) ?_
  refine wpList_nil ?_
  refine x_then ?_
  refine wp_ret ?_
  refine ret_ (.func (.func 53) #[] #[.pointer (some ⟨g1, 0, none⟩)]) (by kernel_rfl) ?_
  exact ⟨_, rfl, HS⟩

set_option maxRecDepth 100000 in
set_option maxHeartbeats 1000000 in
theorem sall_stops (b : Nat) (g c : Nat) (A : Option Addr) (L : List Int) (W : World) (hb : W.cell? ⟨b, 0, none⟩ = some (.pointer (some ⟨g, 0, none⟩))) (hz0 : W.cell? ⟨g, 0, none⟩ = some (.slice A L.length c)) (hr : Rd W A (ci .i32 L)) (hs : S31 L) (hl : L.length ≤ 100000) (m : Nat) : SeqStopsK Fence.wide m Tryd.prog 53 #[.pointer (some ⟨b, 0, none⟩)] encI (SpK b g c A L) (fun xs => xs = L) (fun pre => pre <+: L) L.length W := by
  intro l J Jx WA hW hJ hJx hY h0
  have HD0 := (show SpT b g c A L W from ⟨hb, hz0, hr⟩).below hW
  clear hb hz0 hr hW
  have HDc := HD0
  obtain ⟨hb, hz0, hr⟩ := HDc
  have hJ0 := h0
  refine (callsIn_wide (n := m)).2 ?_
  have HS : St WA (owns []) WA [] := St.start WA _
  refine calls_enter [.func (.yield l) #[] #[], .pointer (some ⟨b, 0, none⟩), undef, undef, undef, undef, undef, undef, undef, undef, undef, undef, undef, undef, undef, undef, undef, undef, undef, undef, undef] Tryd.func53 rfl (by kernel_rfl) ?_
  refine wp_seq ?_
  refine wp_region_lit ?_
  refine ql (.pointer (some ⟨g, 0, none⟩)) (by kernel_rfl) (R_load (p := ⟨b, 0, none⟩) (by kernel_rfl) (by kernel_rfl) (by kernel_rfl) (HS.old0 hb)) ?_
  refine qc (f := 34) (args := #[.pointer (some ⟨g, 0, none⟩)]) (by kernel_rfl) (R_call #[.pointer (some ⟨g, 0, none⟩)] Tryd.func34 (by kernel_rfl) (by kernel_rfl) (by kernel_rfl)) ?_
  refine (slen g c A L _ (HS.old0 hz0) (hr.old0 HS) hs hl).mono ?_
  rintro e W1 ⟨rfl, H_⟩
  refine ⟨_, rfl, ?_⟩
  replace HS : St WA (owns []) W1 [] := HS.join (F := []) (G := []) H_
  clear H_
  refine ql (.int .i64 0) (by kernel_rfl) (by kernel_rfl) ?_
  refine wpList_nil ?_
  refine x_then ?_
  refine wp_block ?_
  have HB := HS.kept.below owns_nil
  have HD := HD0.below HB
  have HJ := hJ _ _ _ none h0 HS.grownBy0 (fun _ h_ => nomatch h_)
  refine wp_loop_ghost (fun kq a' w' => ∃ (J1 : Nat → Value) (i : Int), a' = Fr [.func (.yield l) #[] #[], .pointer (some ⟨b, 0, none⟩), undef, (J1 3), .pointer (some ⟨g, 0, none⟩), .int .i64 (L.length : Int), .int .i64 i, (J1 7), (J1 8), (J1 9), (J1 10), (J1 11), (J1 12), (J1 13), (J1 14), (J1 15), (J1 16), (J1 17), (J1 18), (J1 19), (J1 20)] ∧ kq = L.length - i.toNat ∧ 0 ≤ i ∧ i ≤ L.length ∧ SpT b g c A L w' ∧ J (L.take i.toNat) w') L.length ⟨(fun k_ : Nat => List.getD [.func (.yield l) #[] #[], .pointer (some ⟨b, 0, none⟩), undef, undef, .pointer (some ⟨g, 0, none⟩), .int .i64 (L.length : Int), .int .i64 0, undef, undef, undef, undef, undef, undef, undef, undef, undef, undef, undef, undef, undef, undef] k_ undef), 0, congrArg Fr (by kernel_rfl), rfl, by omega, by omega, HD, HJ⟩ ?_
  clear HS HB HD HJ hJ0 HD0 hb hz0 hr
  intro kq a' WB hrel
  obtain ⟨J1, i, rfl, hk, i0, i1, HD, HJ⟩ := hrel
  have HDc := HD
  obtain ⟨hb, hz0, hr⟩ := HDc
  have HS : St WB (owns []) WB [] := St.start WB _
  by_cases hil : i < (L.length : Int)
  · skip
    have hdc := drop_cons i0 hil
    have htk : L.take (i + 1).toNat = L.take i.toNat ++ [rdI L i] := by rw [show (i + 1).toNat = i.toNat + 1 by omega, List.take_add_one, rdI_eq i0 hil]; rfl
    have hlx := hs.2 _ (mem_rd i0 hil)
    have hY1 := hY (L.take i.toNat) (rdI L i) WB HJ (by rw [List.length_take]; omega)
    refine wp_seq ?_
    refine wp_region_lit ?_
    refine ql (.bool true) (by kernel_rfl) (R_bool (p := i < (L.length : Int)) (by kernel_rfl) (by omega)) ?_
    refine wpList_nil ?_
    refine x_then ?_
    refine wp_seq ?_
    refine wp_cond_true (by kernel_rfl) ?_
    refine wp_skip ?_
    refine x_then ?_
    refine wp_seq ?_
    refine wp_block ?_
    refine wp_seq ?_
    refine wp_region_lit ?_
    refine ql (.int .i64 i) (by kernel_rfl) (by kernel_rfl) ?_
    refine ql (.int .i64 i) (by kernel_rfl) (by kernel_rfl) ?_
    refine wpList_nil ?_
    refine x_then ?_
    refine wp_seq ?_
    refine wp_region_yield ?_
    refine yq (.func (.yield l) #[] #[]) (by kernel_rfl) (by intro c_ h_; cases h_) (by kernel_rfl) ?_
    refine yq (.pointer (some ⟨g, 0, none⟩)) (by kernel_rfl) (by intro c_ h_; cases h_) (R_load (p := ⟨b, 0, none⟩) (by kernel_rfl) (by kernel_rfl) (by kernel_rfl) (HS.old0 hb)) ?_
    refine yq (.pointer (some ⟨g, 0, none⟩)) (by kernel_rfl) (by intro c_ h_; cases h_) (by kernel_rfl) ?_
    refine yq (.pointer (some ⟨g, 0, none⟩)) (by kernel_rfl) (by intro c_ h_; cases h_) (by kernel_rfl) ?_
    refine yq (.slice A L.length c) (by kernel_rfl) (by intro c_ h_; cases h_) (R_load (p := ⟨g, 0, none⟩) (by kernel_rfl) (by kernel_rfl) (by kernel_rfl) (HS.old0 hz0)) ?_
    refine yq (.int .i64 i) (by kernel_rfl) (by intro c_ h_; cases h_) (by kernel_rfl) ?_
    obtain ⟨ad2, rfl⟩ := Rd.isSome_ hr (by rw [ci_len]; omega)
    refine yq (.pointer (some (ad2.add i.toNat))) (by kernel_rfl) (by intro c_ h_; cases h_) (R_indexA1 (k := .i64) (p := ad2) (n := L.length) (c := c) (i := i) (by kernel_rfl) (by kernel_rfl) Tryd.underlying72 (by kernel_rfl) (by omega) (by omega)) ?_
    refine yq (.int .i32 (rdI L i)) (by kernel_rfl) (by intro c_ h_; cases h_) (R_load (p := ad2.add i.toNat) (by kernel_rfl) (by kernel_rfl) (by kernel_rfl) (HS.old0 (hr.at_ (ci_rd (i := i) (by omega) (by omega))))) ?_
    refine yq (.int .i64 (rdI L i)) (by kernel_rfl) (by intro c_ h_; cases h_) (R_int (by kernel_rfl) (w64 (by omega))) ?_
    refine yy #[.int .i64 (rdI L i)] (by kernel_rfl) (by kernel_rfl) (by kernel_rfl) hY1 ?_
    rintro e WC (⟨rfl, HJ3, HK3⟩ | ⟨rfl, HJ3⟩)
    · refine ⟨_, rfl, ?_⟩
      clear HS
      have HD3 := HK3 HD
      clear HD hb hz0 hr
      have HDc := HD3
      obtain ⟨hb, hz0, hr⟩ := HDc
      have HS : St WC (owns []) WC [] := St.start WC _
      refine yq (.bool false) (by kernel_rfl) (by intro c_ h_; cases h_) (by kernel_rfl) ?_
      refine wpListIn_nil ?_
      refine x_then ?_
      refine wp_cond_false (by kernel_rfl) ?_
      refine wp_skip ?_
      refine x_inb ?_
      refine x_then ?_
      refine wp_region_lit ?_
      refine ql (.int .i64 (i + 1)) (by kernel_rfl) (R_int (by kernel_rfl) (w64 (by omega))) ?_
      refine ql (.int .i64 (i + 1)) (by kernel_rfl) (by kernel_rfl) ?_
      refine wpList_nil ?_
      refine x_then ?_
      have HB := HS.kept.below owns_nil
      rw [← htk] at HJ3
      exact ⟨L.length - (i + 1).toNat, by omega, (fun k_ : Nat => List.getD [.func (.yield l) #[] #[], .pointer (some ⟨b, 0, none⟩), undef, .int .i64 i, .pointer (some ⟨g, 0, none⟩), .int .i64 (L.length : Int), .int .i64 (i + 1), .bool true, .int .i64 i, .func (.yield l) #[] #[], .pointer (some ⟨g, 0, none⟩), .pointer (some ⟨g, 0, none⟩), .pointer (some ⟨g, 0, none⟩), .slice (some ad2) L.length c, .int .i64 i, .pointer (some (ad2.add i.toNat)), .int .i32 (rdI L i), .int .i64 (rdI L i), .bool true, .bool false, .int .i64 (i + 1)] k_ undef), i + 1, congrArg Fr (by kernel_rfl), rfl, by omega, by omega, HD3.below HB, hJ _ _ _ none HJ3 HS.grownBy0 (fun _ h_ => nomatch h_)⟩
    · refine ⟨_, rfl, ?_⟩
      clear HS
      have HS : St WC (owns []) WC [] := St.start WC _
      refine yq (.bool true) (by kernel_rfl) (by intro c_ h_; cases h_) (by kernel_rfl) ?_
      refine wpListIn_nil ?_
      refine x_then ?_
      refine wp_cond_true (by kernel_rfl) ?_
      refine wp_ret ?_
      refine x_inbR ?_
      refine x_thenR ?_
      refine x_thenR ?_
      refine x_inbR ?_
      refine ret_ (.tuple #[]) (by kernel_rfl) ?_
      exact ⟨⟨_, rfl⟩, .inr ⟨L.take i.toNat ++ [rdI L i], ⟨L.drop (i + 1).toNat, by rw [List.append_assoc, List.singleton_append, ← hdc, List.take_append_drop]⟩, HJ3⟩⟩
  · skip
    refine wp_seq ?_
    refine wp_region_lit ?_
    refine ql (.bool false) (by kernel_rfl) (R_nbool (p := i < (L.length : Int)) (by kernel_rfl) (by omega)) ?_
    refine wpList_nil ?_
    refine x_then ?_
    refine wp_seq ?_
    refine wp_cond_false (by kernel_rfl) ?_
    refine wp_exit ?_
    refine x_thenE ?_
    refine x_thenE ?_
    refine x_hit ?_
    refine end_ (.tuple #[]) (by kernel_rfl) ?_
    have hi9 : i.toNat = L.length := by omega
    rw [hi9, List.take_length] at HJ
    exact ⟨⟨_, rfl⟩, .inl ⟨L, rfl, HJ⟩⟩

set_option maxRecDepth 100000 in
set_option maxHeartbeats 1000000 in
theorem sof (Al : Option Addr) (cl : Nat) (l : List Int) (W : World) (hra : Rd W Al (ci .i64 l)) (hl : l.length ≤ 1000) : Calls Tryd.prog 25 #[.slice Al l.length cl] W fun e W' => ∃ g A' c', e = .returned (.pointer (some ⟨g, 0, none⟩)) ∧ St W (owns []) W' [blk g [.slice A' ((ofL l).length) c'] 74, row A' ((ofL l).length) c' (ci .i32 (ofL l)) 21 1] := by
  have HS : St W (owns []) W [] := St.start W _
  refine calls_enter [.slice Al l.length cl, undef, undef, undef, undef, undef, undef, undef, undef, undef, undef, undef, undef, undef, undef, undef, undef, undef, undef] Tryd.func25 rfl (by kernel_rfl) ?_
  refine wp_seq ?_
  refine wp_region_lit ?_
  refine ql (.pointer none) (by kernel_rfl) (by kernel_rfl) ?_
  refine wpList_nil ?_
  refine x_then ?_
  refine wp_seq ?_
  refine wp_region_lit ?_
  refine ql (.agg #[.slice none 0 0]) (by kernel_rfl) (by kernel_rfl) ?_
  refine kb HS [.slice none 0 0] 74 (fun g => .pointer (some ⟨g, 0, none⟩)) (by kernel_rfl) (by kernel_rfl) ?_
  intro g1 W2 H_
  replace HS : St W (owns []) W2 [blk g1 [.slice none 0 0] 74] := H_
  clear H_
  refine ql (.pointer (some ⟨g1, 0, none⟩)) (by kernel_rfl) (by kernel_rfl) ?_
  refine wpList_nil ?_
  refine x_then ?_
  refine wp_seq ?_
  refine wp_seq ?_
  refine wp_region_lit ?_
  refine ql (.slice Al l.length cl) (by kernel_rfl) (by kernel_rfl) ?_
  refine ql (.int .i64 (l.length : Int)) (by kernel_rfl) (by kernel_rfl) ?_
  refine ql (.int .i64 0) (by kernel_rfl) (by kernel_rfl) ?_
  refine wpList_nil ?_
  refine x_then ?_
  refine wp_block ?_
  replace HS : St W (owns []) W2 [row none 0 0 (ci .i32 ([])) 21 1, blk g1 [.slice none 0 0] 74] := (HS.nilRow 21 1).cast_ (by kernel_rfl)
  replace HS : St W (owns []) W2 [blk g1 [.slice none 0 0] 74, row none 0 0 (ci .i32 ([])) 21 1] := HS.perm (perm_ [1, 0] (by kernel_rfl) rfl)
  refine wp_loop_ghost (fun kq a' w' => ∃ (J3 : Nat → Value) (k : Int) (L : List Int) (A : Option Addr) (c : Nat) , a' = Fr [.slice Al l.length cl, undef, .pointer none, .pointer (some ⟨g1, 0, none⟩), undef, (J3 5), .agg #[.slice none 0 0], .pointer (some ⟨g1, 0, none⟩), .slice Al l.length cl, .int .i64 (l.length : Int), .int .i64 k, (J3 11), (J3 12), (J3 13), (J3 14), (J3 15), (J3 16), (J3 17), undef] ∧ kq = (l.length - (k).toNat) ∧ (0 ≤ k) ∧ (k ≤ l.length) ∧ (OfP l L k) ∧ St W (owns []) w' [blk g1 [.slice A L.length c] 74, row A L.length c (ci .i32 L) 21 1]) (l.length - ((0 : Int)).toNat) ⟨(fun k_ : Nat => List.getD [.slice Al l.length cl, undef, .pointer none, .pointer (some ⟨g1, 0, none⟩), undef, undef, .agg #[.slice none 0 0], .pointer (some ⟨g1, 0, none⟩), .slice Al l.length cl, .int .i64 (l.length : Int), .int .i64 0, undef, undef, undef, undef, undef, undef, undef, undef] k_ undef), (0 : Int), [], none, 0, congrArg Fr (by kernel_rfl), rfl, by omega, by omega, ofP_start l, HS⟩ ?_
  clear HS
  intro kq4 a' W5 hrel
  obtain ⟨J3, k, L, A, c, rfl, hk, k0, k1, hP, HS⟩ := hrel
  have hol := ofP_len hP
  refine wp_seq ?_
  refine wp_region_lit ?_
  by_cases hc6 : k < (l.length : Int)
  · skip
    refine ql (.bool true) (by kernel_rfl) (R_bool (p := k < (l.length : Int)) (by kernel_rfl) (hc6)) ?_
    refine wpList_nil ?_
    refine x_then ?_
    refine wp_seq ?_
    refine wp_cond_true (by kernel_rfl) ?_
    refine wp_skip ?_
    refine x_then ?_
    refine wp_seq ?_
    refine wp_block ?_
    refine wp_seq ?_
    refine wp_region_lit ?_
    obtain ⟨ad7, rfl⟩ := Rd.isSome_ hra (by rw [ci_len]; omega)
    refine ql (.pointer (some (ad7.add k.toNat))) (by kernel_rfl) (R_indexA1 (k := .i64) (p := ad7) (n := l.length) (c := cl) (i := k) (by kernel_rfl) (by kernel_rfl) Tryd.underlying28 (by kernel_rfl) (by omega) (by omega)) ?_
    refine ql (.int .i64 (rdI l k)) (by kernel_rfl) (R_load (p := ad7.add k.toNat) (by kernel_rfl) (by kernel_rfl) (by kernel_rfl) (HS.old0 (hra.at_ (ci_rd (i := k) (by omega) (by omega))))) ?_
    refine ql (.int .i64 (rdI l k)) (by kernel_rfl) (by kernel_rfl) ?_
    refine wpList_nil ?_
    refine x_then ?_
    refine wp_region_lit ?_
    refine ql (.pointer (some ⟨g1, 0, none⟩)) (by kernel_rfl) (by kernel_rfl) ?_
    refine ql (.int .i64 (rdI l k)) (by kernel_rfl) (by kernel_rfl) ?_
    refine qc (f := 31) (args := #[.pointer (some ⟨g1, 0, none⟩), .int .i64 (rdI l k)]) (by kernel_rfl) (R_call #[.pointer (some ⟨g1, 0, none⟩), .int .i64 (rdI l k)] Tryd.func31 (by kernel_rfl) (by kernel_rfl) (by kernel_rfl)) ?_
    refine (sadd g1 c A L (rdI l k) _ _ (St.focus (F := [blk g1 [.slice A L.length c] 74, row A L.length c (ci .i32 L) 21 1]) HS) (ofP_s31 hP) (by omega)).mono ?_
    rintro e W11 ⟨A8, c9, rfl, H_⟩
    refine ⟨_, rfl, ?_⟩
    replace HS : St W (owns []) W11 [blk g1 [.slice A8 ((addL 2147483648 L (rdI l k)).length) c9] 74, row A8 ((addL 2147483648 L (rdI l k)).length) c9 (ci .i32 (addL 2147483648 L (rdI l k))) 21 1] := HS.join (F := [blk g1 [.slice A L.length c] 74, row A L.length c (ci .i32 L) 21 1]) (G := [blk g1 [.slice A8 ((addL 2147483648 L (rdI l k)).length) c9] 74, row A8 ((addL 2147483648 L (rdI l k)).length) c9 (ci .i32 (addL 2147483648 L (rdI l k))) 21 1]) H_
    clear H_
    refine wpList_nil ?_
    refine x_inb ?_
    refine x_then ?_
    refine wp_region_lit ?_
    refine ql (.int .i64 (k + 1)) (by kernel_rfl) (R_int (by kernel_rfl) (w64 (by omega))) ?_
    refine ql (.int .i64 (k + 1)) (by kernel_rfl) (by kernel_rfl) ?_
    refine wpList_nil ?_
    refine x_then ?_
    exact ⟨l.length - (k + 1).toNat, by omega, (fun k_ : Nat => List.getD [.slice (some ad7) l.length cl, undef, .pointer none, .pointer (some ⟨g1, 0, none⟩), undef, .int .i64 (rdI l k), .agg #[.slice none 0 0], .pointer (some ⟨g1, 0, none⟩), .slice (some ad7) l.length cl, .int .i64 (l.length : Int), .int .i64 (k + 1), .bool true, .pointer (some (ad7.add k.toNat)), .int .i64 (rdI l k), .pointer (some ⟨g1, 0, none⟩), .int .i64 (rdI l k), .bool (addB 2147483648 L (rdI l k)), .int .i64 (k + 1), undef] k_ undef), k + 1, (addL 2147483648 L (rdI l k)), A8, c9, congrArg Fr (by kernel_rfl), rfl, by omega, by omega, ofP_step hP k0 (by omega), HS⟩
  · skip
    refine ql (.bool false) (by kernel_rfl) (R_nbool (p := k < (l.length : Int)) (by kernel_rfl) (hc6)) ?_
    refine wpList_nil ?_
    refine x_then ?_
    refine wp_seq ?_
    refine wp_cond_false (by kernel_rfl) ?_
    refine wp_exit ?_
    refine x_thenE ?_
    refine x_thenE ?_
    refine x_hit ?_
    refine x_then ?_
    refine wp_seq ?_
    refine wp_region_lit ?_
    refine ql (.pointer (some ⟨g1, 0, none⟩)) (by kernel_rfl) (by kernel_rfl) ?_
    refine ql (.pointer (some ⟨g1, 0, none⟩)) (by kernel_rfl) (by kernel_rfl) ?_
    refine wpList_nil ?_
    refine x_then ?_
    refine wp_ret ?_
    refine ret_ (.pointer (some ⟨g1, 0, none⟩)) (by kernel_rfl) ?_
    have hq := ofP_end hP (by omega)
    rw [← hq]
    exact ⟨_, _, _, rfl, HS⟩

set_option maxRecDepth 100000 in
set_option maxHeartbeats 1000000 in
theorem mlen_few (g q c : Nat) (A : Option Addr) (n : Int) (L : List Int) (W : World) (hz0 : W.cell? ⟨g, 0, none⟩ = some (.pointer (some ⟨q, 0, none⟩))) (hz1 : W.cell? ⟨g, 1, none⟩ = some (.pointer none)) (hz2 : W.cell? ⟨g, 2, none⟩ = some (.int .i64 n)) (hq0 : W.cell? ⟨q, 0, none⟩ = some (.slice A L.length c)) (hr : Rd W A (ci .i32 L)) (hs : S31 L) (hl : L.length ≤ 100000) : Calls Tryd.prog 13 #[.pointer (some ⟨g, 0, none⟩)] W fun e W' => e = .returned (.int .i64 (L.length : Int)) ∧ St W (owns []) W' [] := by
  have HS : St W (owns []) W [] := St.start W _
  refine calls_enter [.pointer (some ⟨g, 0, none⟩), undef, undef, undef, undef, undef, undef, undef, undef, undef, undef, undef, undef, undef, undef, undef, undef, undef, undef, undef, undef, undef] Tryd.func13 rfl (by kernel_rfl) ?_
  refine wp_seq ?_
  refine wp_region_lit ?_
  refine ql (.int .i64 0) (by kernel_rfl) (by kernel_rfl) ?_
  refine wpList_nil ?_
  refine x_then ?_
  refine wp_seq ?_
  refine wp_block ?_
  refine wp_seq ?_
  refine wp_region_lit ?_
  refine ql (.pointer (some ⟨g, 0, none⟩)) (by kernel_rfl) (by kernel_rfl) ?_
  refine ql (.bool false) (by kernel_rfl) (by kernel_rfl) ?_
  refine ql (.bool false) (by kernel_rfl) (by kernel_rfl) ?_
  refine wpList_nil ?_
  refine x_then ?_
  refine wp_cond_false (by kernel_rfl) ?_
  refine wp_seq ?_
  refine wp_region_lit ?_
  refine ql (.pointer (some ⟨g, 0, none⟩)) (by kernel_rfl) (by kernel_rfl) ?_
  refine ql (.pointer (some ⟨g, 0, none⟩)) (by kernel_rfl) (by kernel_rfl) ?_
  refine ql (.pointer (some ⟨g, 1, none⟩)) (by kernel_rfl) (by kernel_rfl) ?_
  refine ql (.pointer none) (by kernel_rfl) (R_load (p := ⟨g, 1, none⟩) (by kernel_rfl) (by kernel_rfl) (by kernel_rfl) (HS.old0 hz1)) ?_
  refine ql (.bool false) (by kernel_rfl) (by kernel_rfl) ?_
  refine ql (.bool false) (by kernel_rfl) (by kernel_rfl) ?_
  refine wpList_nil ?_
  refine x_then ?_
  refine wp_cond_false (by kernel_rfl) ?_
  refine wp_skip ?_
  refine x_inb ?_
  refine x_then ?_
  refine wp_seq ?_
  refine wp_region_lit ?_
  refine ql (.pointer (some ⟨g, 0, none⟩)) (by kernel_rfl) (by kernel_rfl) ?_
  refine ql (.pointer (some ⟨g, 0, none⟩)) (by kernel_rfl) (by kernel_rfl) ?_
  refine ql (.pointer (some ⟨g, 0, none⟩)) (by kernel_rfl) (by kernel_rfl) ?_
  refine ql (.pointer (some ⟨q, 0, none⟩)) (by kernel_rfl) (R_load (p := ⟨g, 0, none⟩) (by kernel_rfl) (by kernel_rfl) (by kernel_rfl) (HS.old0 hz0)) ?_
  refine qc (f := 34) (args := #[.pointer (some ⟨q, 0, none⟩)]) (by kernel_rfl) (R_call #[.pointer (some ⟨q, 0, none⟩)] Tryd.func34 (by kernel_rfl) (by kernel_rfl) (by kernel_rfl)) ?_
  refine (slen q c A L _ (HS.old0 hq0) (hr.old0 HS) hs hl).mono ?_
  rintro e W1 ⟨rfl, H_⟩
  refine ⟨_, rfl, ?_⟩
  replace HS : St W (owns []) W1 [] := HS.join (F := []) (G := []) H_
  clear H_
  refine ql (.int .i64 (L.length : Int)) (by kernel_rfl) (by kernel_rfl) ?_
  refine wpList_nil ?_
  refine x_then ?_
  refine wp_ret ?_
  refine ret_ (.int .i64 (L.length : Int)) (by kernel_rfl) ?_
  exact ⟨by first | rfl | (congr 1; congr 1; omega), HS⟩

set_option maxRecDepth 100000 in
set_option maxHeartbeats 1000000 in
theorem mlen_mny (g d c : Nat) (A : Option Addr) (ws : List Int) (n : Int) (L : List Int) (W : World) (hz0 : W.cell? ⟨g, 0, none⟩ = some (.pointer none)) (hz1 : W.cell? ⟨g, 1, none⟩ = some (.pointer (some ⟨d, 0, none⟩))) (hz2 : W.cell? ⟨g, 2, none⟩ = some (.int .i64 n)) (hd0 : W.cell? ⟨d, 0, none⟩ = some (.slice A ws.length c)) (hd1 : W.cell? ⟨d, 1, none⟩ = some (.int .i64 n)) (hr : Rd W A (ci .u64 ws)) (hR : Rep ws n L) (hn : n ≤ 1048576) (h0 : 0 ≤ n) : Calls Tryd.prog 13 #[.pointer (some ⟨g, 0, none⟩)] W fun e W' => e = .returned (.int .i64 (L.length : Int)) ∧ St W (owns []) W' [] := by
  have HS : St W (owns []) W [] := St.start W _
  refine calls_enter [.pointer (some ⟨g, 0, none⟩), undef, undef, undef, undef, undef, undef, undef, undef, undef, undef, undef, undef, undef, undef, undef, undef, undef, undef, undef, undef, undef] Tryd.func13 rfl (by kernel_rfl) ?_
  refine wp_seq ?_
  refine wp_region_lit ?_
  refine ql (.int .i64 0) (by kernel_rfl) (by kernel_rfl) ?_
  refine wpList_nil ?_
  refine x_then ?_
  refine wp_seq ?_
  refine wp_block ?_
  refine wp_seq ?_
  refine wp_region_lit ?_
  refine ql (.pointer (some ⟨g, 0, none⟩)) (by kernel_rfl) (by kernel_rfl) ?_
  refine ql (.bool false) (by kernel_rfl) (by kernel_rfl) ?_
  refine ql (.bool false) (by kernel_rfl) (by kernel_rfl) ?_
  refine wpList_nil ?_
  refine x_then ?_
  refine wp_cond_false (by kernel_rfl) ?_
  refine wp_seq ?_
  refine wp_region_lit ?_
  refine ql (.pointer (some ⟨g, 0, none⟩)) (by kernel_rfl) (by kernel_rfl) ?_
  refine ql (.pointer (some ⟨g, 0, none⟩)) (by kernel_rfl) (by kernel_rfl) ?_
  refine ql (.pointer (some ⟨g, 1, none⟩)) (by kernel_rfl) (by kernel_rfl) ?_
  refine ql (.pointer (some ⟨d, 0, none⟩)) (by kernel_rfl) (R_load (p := ⟨g, 1, none⟩) (by kernel_rfl) (by kernel_rfl) (by kernel_rfl) (HS.old0 hz1)) ?_
  refine ql (.bool true) (by kernel_rfl) (by kernel_rfl) ?_
  refine ql (.bool true) (by kernel_rfl) (by kernel_rfl) ?_
  refine wpList_nil ?_
  refine x_then ?_
  refine wp_cond_true (by kernel_rfl) ?_
  refine wp_seq ?_
  refine wp_region_lit ?_
  refine ql (.pointer (some ⟨g, 0, none⟩)) (by kernel_rfl) (by kernel_rfl) ?_
  refine ql (.pointer (some ⟨g, 0, none⟩)) (by kernel_rfl) (by kernel_rfl) ?_
  refine ql (.pointer (some ⟨g, 1, none⟩)) (by kernel_rfl) (by kernel_rfl) ?_
  refine ql (.pointer (some ⟨d, 0, none⟩)) (by kernel_rfl) (R_load (p := ⟨g, 1, none⟩) (by kernel_rfl) (by kernel_rfl) (by kernel_rfl) (HS.old0 hz1)) ?_
  refine qc (f := 14) (args := #[.pointer (some ⟨d, 0, none⟩)]) (by kernel_rfl) (R_call #[.pointer (some ⟨d, 0, none⟩)] Tryd.func14 (by kernel_rfl) (by kernel_rfl) (by kernel_rfl)) ?_
  refine (dcount d c A ws n L _ (HS.old0 hd0) (HS.old0 hd1) (hr.old0 HS) hR hn).mono ?_
  rintro e W1 ⟨rfl, H_⟩
  refine ⟨_, rfl, ?_⟩
  replace HS : St W (owns []) W1 [] := HS.join (F := []) (G := []) H_
  clear H_
  refine ql (.int .i64 (L.length : Int)) (by kernel_rfl) (by kernel_rfl) ?_
  refine wpList_nil ?_
  refine x_then ?_
  refine wp_ret ?_
  refine x_inbR ?_
  refine x_thenR ?_
  refine ret_ (.int .i64 (L.length : Int)) (by kernel_rfl) ?_
  exact ⟨by first | rfl | (congr 1; congr 1; omega), HS⟩

theorem mlen (g : Nat) (n : Int) (L : List Int) (x : MxF) (W : World) (hP : (many (mxE 53 74 21 62 63 g n L x)).P W) (hx : x.ok n L) (h0 : 0 ≤ n) (hn : n ≤ 1048576) : Calls Tryd.prog 13 #[.pointer (some ⟨g, 0, none⟩)] W fun e W' => e = .returned (.int .i64 (L.length : Int)) ∧ St W (owns []) W' [] := by
  rcases x with ⟨q, c, A⟩ | ⟨d, c, A, ws⟩
  · obtain ⟨a, b, c1, d, e⟩ := few_P hP
    exact mlen_few g q c A n L W a b c1 d e hx.1 (by have := hx.2.2; omega)
  · obtain ⟨a, b, c1, d1, d2, e⟩ := mny_P hP
    exact mlen_mny g d c A ws n L W a b c1 d1 d2 e hx.1 hn h0

set_option maxRecDepth 100000 in
set_option maxHeartbeats 1000000 in
theorem mhas_few (g q c : Nat) (A : Option Addr) (n : Int) (L : List Int) (i : Int) (W : World) (hz0 : W.cell? ⟨g, 0, none⟩ = some (.pointer (some ⟨q, 0, none⟩))) (hz1 : W.cell? ⟨g, 1, none⟩ = some (.pointer none)) (hz2 : W.cell? ⟨g, 2, none⟩ = some (.int .i64 n)) (hq0 : W.cell? ⟨q, 0, none⟩ = some (.slice A L.length c)) (hr : Rd W A (ci .i32 L)) (hs : S31 L) (hl : L.length ≤ 100000) : Calls Tryd.prog 15 #[.pointer (some ⟨g, 0, none⟩), .int .i64 i] W fun e W' => e = .returned (.bool (decide (i ∈ L))) ∧ St W (owns []) W' [] := by
  have HS : St W (owns []) W [] := St.start W _
  refine calls_enter [.pointer (some ⟨g, 0, none⟩), .int .i64 i, undef, undef, undef, undef, undef, undef, undef, undef, undef, undef, undef, undef, undef, undef, undef, undef, undef, undef, undef, undef, undef, undef, undef, undef] Tryd.func15 rfl (by kernel_rfl) ?_
  refine wp_seq ?_
  refine wp_region_lit ?_
  refine ql (.bool false) (by kernel_rfl) (by kernel_rfl) ?_
  refine wpList_nil ?_
  refine x_then ?_
  refine wp_seq ?_
  refine wp_block ?_
  refine wp_seq ?_
  refine wp_region_lit ?_
  refine ql (.pointer (some ⟨g, 0, none⟩)) (by kernel_rfl) (by kernel_rfl) ?_
  refine ql (.bool false) (by kernel_rfl) (by kernel_rfl) ?_
  refine ql (.bool false) (by kernel_rfl) (by kernel_rfl) ?_
  refine wpList_nil ?_
  refine x_then ?_
  refine wp_cond_false (by kernel_rfl) ?_
  refine wp_seq ?_
  refine wp_region_lit ?_
  refine ql (.pointer (some ⟨g, 0, none⟩)) (by kernel_rfl) (by kernel_rfl) ?_
  refine ql (.pointer (some ⟨g, 0, none⟩)) (by kernel_rfl) (by kernel_rfl) ?_
  refine ql (.pointer (some ⟨g, 1, none⟩)) (by kernel_rfl) (by kernel_rfl) ?_
  refine ql (.pointer none) (by kernel_rfl) (R_load (p := ⟨g, 1, none⟩) (by kernel_rfl) (by kernel_rfl) (by kernel_rfl) (HS.old0 hz1)) ?_
  refine ql (.bool false) (by kernel_rfl) (by kernel_rfl) ?_
  refine ql (.bool false) (by kernel_rfl) (by kernel_rfl) ?_
  refine wpList_nil ?_
  refine x_then ?_
  refine wp_cond_false (by kernel_rfl) ?_
  refine wp_skip ?_
  refine x_inb ?_
  refine x_then ?_
  refine wp_seq ?_
  refine wp_region_lit ?_
  refine ql (.pointer (some ⟨g, 0, none⟩)) (by kernel_rfl) (by kernel_rfl) ?_
  refine ql (.pointer (some ⟨g, 0, none⟩)) (by kernel_rfl) (by kernel_rfl) ?_
  refine ql (.pointer (some ⟨g, 0, none⟩)) (by kernel_rfl) (by kernel_rfl) ?_
  refine ql (.pointer (some ⟨q, 0, none⟩)) (by kernel_rfl) (R_load (p := ⟨g, 0, none⟩) (by kernel_rfl) (by kernel_rfl) (by kernel_rfl) (HS.old0 hz0)) ?_
  refine ql (.int .i64 i) (by kernel_rfl) (by kernel_rfl) ?_
  refine qc (f := 36) (args := #[.pointer (some ⟨q, 0, none⟩), .int .i64 i]) (by kernel_rfl) (R_call #[.pointer (some ⟨q, 0, none⟩), .int .i64 i] Tryd.func36 (by kernel_rfl) (by kernel_rfl) (by kernel_rfl)) ?_
  refine (shas q c A L i _ (HS.old0 hq0) (hr.old0 HS) hs hl).mono ?_
  rintro e W1 ⟨rfl, H_⟩
  refine ⟨_, rfl, ?_⟩
  replace HS : St W (owns []) W1 [] := HS.join (F := []) (G := []) H_
  clear H_
  refine ql (.bool (decide (i ∈ L))) (by kernel_rfl) (by kernel_rfl) ?_
  refine wpList_nil ?_
  refine x_then ?_
  refine wp_ret ?_
  refine ret_ (.bool (decide (i ∈ L))) (by kernel_rfl) ?_
  exact ⟨by first | rfl | (congr 1; congr 1; omega), HS⟩

set_option maxRecDepth 100000 in
set_option maxHeartbeats 1000000 in
theorem mhas_mny (g d c : Nat) (A : Option Addr) (ws : List Int) (n : Int) (L : List Int) (i : Int) (W : World) (hz0 : W.cell? ⟨g, 0, none⟩ = some (.pointer none)) (hz1 : W.cell? ⟨g, 1, none⟩ = some (.pointer (some ⟨d, 0, none⟩))) (hz2 : W.cell? ⟨g, 2, none⟩ = some (.int .i64 n)) (hd0 : W.cell? ⟨d, 0, none⟩ = some (.slice A ws.length c)) (hd1 : W.cell? ⟨d, 1, none⟩ = some (.int .i64 n)) (hr : Rd W A (ci .u64 ws)) (hR : Rep ws n L) (hn : n ≤ 1048576) (h0 : 0 ≤ n) : Calls Tryd.prog 15 #[.pointer (some ⟨g, 0, none⟩), .int .i64 i] W fun e W' => e = .returned (.bool (decide (i ∈ L))) ∧ St W (owns []) W' [] := by
  have HS : St W (owns []) W [] := St.start W _
  refine calls_enter [.pointer (some ⟨g, 0, none⟩), .int .i64 i, undef, undef, undef, undef, undef, undef, undef, undef, undef, undef, undef, undef, undef, undef, undef, undef, undef, undef, undef, undef, undef, undef, undef, undef] Tryd.func15 rfl (by kernel_rfl) ?_
  refine wp_seq ?_
  refine wp_region_lit ?_
  refine ql (.bool false) (by kernel_rfl) (by kernel_rfl) ?_
  refine wpList_nil ?_
  refine x_then ?_
  refine wp_seq ?_
  refine wp_block ?_
  refine wp_seq ?_
  refine wp_region_lit ?_
  refine ql (.pointer (some ⟨g, 0, none⟩)) (by kernel_rfl) (by kernel_rfl) ?_
  refine ql (.bool false) (by kernel_rfl) (by kernel_rfl) ?_
  refine ql (.bool false) (by kernel_rfl) (by kernel_rfl) ?_
  refine wpList_nil ?_
  refine x_then ?_
  refine wp_cond_false (by kernel_rfl) ?_
  refine wp_seq ?_
  refine wp_region_lit ?_
  refine ql (.pointer (some ⟨g, 0, none⟩)) (by kernel_rfl) (by kernel_rfl) ?_
  refine ql (.pointer (some ⟨g, 0, none⟩)) (by kernel_rfl) (by kernel_rfl) ?_
  refine ql (.pointer (some ⟨g, 1, none⟩)) (by kernel_rfl) (by kernel_rfl) ?_
  refine ql (.pointer (some ⟨d, 0, none⟩)) (by kernel_rfl) (R_load (p := ⟨g, 1, none⟩) (by kernel_rfl) (by kernel_rfl) (by kernel_rfl) (HS.old0 hz1)) ?_
  refine ql (.bool true) (by kernel_rfl) (by kernel_rfl) ?_
  refine ql (.bool true) (by kernel_rfl) (by kernel_rfl) ?_
  refine wpList_nil ?_
  refine x_then ?_
  refine wp_cond_true (by kernel_rfl) ?_
  refine wp_seq ?_
  refine wp_region_lit ?_
  refine ql (.pointer (some ⟨g, 0, none⟩)) (by kernel_rfl) (by kernel_rfl) ?_
  refine ql (.pointer (some ⟨g, 0, none⟩)) (by kernel_rfl) (by kernel_rfl) ?_
  refine ql (.pointer (some ⟨g, 1, none⟩)) (by kernel_rfl) (by kernel_rfl) ?_
  refine ql (.pointer (some ⟨d, 0, none⟩)) (by kernel_rfl) (R_load (p := ⟨g, 1, none⟩) (by kernel_rfl) (by kernel_rfl) (by kernel_rfl) (HS.old0 hz1)) ?_
  refine ql (.int .i64 i) (by kernel_rfl) (by kernel_rfl) ?_
  refine qc (f := 16) (args := #[.pointer (some ⟨d, 0, none⟩), .int .i64 i]) (by kernel_rfl) (R_call #[.pointer (some ⟨d, 0, none⟩), .int .i64 i] Tryd.func16 (by kernel_rfl) (by kernel_rfl) (by kernel_rfl)) ?_
  refine (dhas d c A ws n L i _ (HS.old0 hd0) (HS.old0 hd1) (hr.old0 HS) hR hn).mono ?_
  rintro e W1 ⟨rfl, H_⟩
  refine ⟨_, rfl, ?_⟩
  replace HS : St W (owns []) W1 [] := HS.join (F := []) (G := []) H_
  clear H_
  refine ql (.bool (decide (i ∈ L))) (by kernel_rfl) (by kernel_rfl) ?_
  refine wpList_nil ?_
  refine x_then ?_
  refine wp_ret ?_
  refine x_inbR ?_
  refine x_thenR ?_
  refine ret_ (.bool (decide (i ∈ L))) (by kernel_rfl) ?_
  exact ⟨by first | rfl | (congr 1; congr 1; omega), HS⟩

set_option maxRecDepth 100000 in
set_option maxHeartbeats 1000000 in
theorem mwords_few (g q c : Nat) (A : Option Addr) (n : Int) (L : List Int) (W : World) (hz0 : W.cell? ⟨g, 0, none⟩ = some (.pointer (some ⟨q, 0, none⟩))) (hz1 : W.cell? ⟨g, 1, none⟩ = some (.pointer none)) (hz2 : W.cell? ⟨g, 2, none⟩ = some (.int .i64 n)) (hq0 : W.cell? ⟨q, 0, none⟩ = some (.slice A L.length c)) (hr : Rd W A (ci .i32 L)) (hs : S31 L) (hl : L.length ≤ 100000) : Calls Tryd.prog 24 #[.pointer (some ⟨g, 0, none⟩)] W fun e W' => e = .returned (.int .i64 (L.length : Int)) ∧ St W (owns []) W' [] := by
  have HS : St W (owns []) W [] := St.start W _
  refine calls_enter [.pointer (some ⟨g, 0, none⟩), undef, undef, undef, undef, undef, undef, undef, undef, undef, undef, undef, undef, undef, undef, undef, undef, undef, undef, undef, undef, undef, undef] Tryd.func24 rfl (by kernel_rfl) ?_
  refine wp_seq ?_
  refine wp_region_lit ?_
  refine ql (.int .i64 0) (by kernel_rfl) (by kernel_rfl) ?_
  refine wpList_nil ?_
  refine x_then ?_
  refine wp_seq ?_
  refine wp_block ?_
  refine wp_seq ?_
  refine wp_region_lit ?_
  refine ql (.pointer (some ⟨g, 0, none⟩)) (by kernel_rfl) (by kernel_rfl) ?_
  refine ql (.bool false) (by kernel_rfl) (by kernel_rfl) ?_
  refine ql (.bool false) (by kernel_rfl) (by kernel_rfl) ?_
  refine wpList_nil ?_
  refine x_then ?_
  refine wp_cond_false (by kernel_rfl) ?_
  refine wp_seq ?_
  refine wp_region_lit ?_
  refine ql (.pointer (some ⟨g, 0, none⟩)) (by kernel_rfl) (by kernel_rfl) ?_
  refine ql (.pointer (some ⟨g, 0, none⟩)) (by kernel_rfl) (by kernel_rfl) ?_
  refine ql (.pointer (some ⟨g, 1, none⟩)) (by kernel_rfl) (by kernel_rfl) ?_
  refine ql (.pointer none) (by kernel_rfl) (R_load (p := ⟨g, 1, none⟩) (by kernel_rfl) (by kernel_rfl) (by kernel_rfl) (HS.old0 hz1)) ?_
  refine ql (.bool false) (by kernel_rfl) (by kernel_rfl) ?_
  refine ql (.bool false) (by kernel_rfl) (by kernel_rfl) ?_
  refine wpList_nil ?_
  refine x_then ?_
  refine wp_cond_false (by kernel_rfl) ?_
  refine wp_skip ?_
  refine x_inb ?_
  refine x_then ?_
  refine wp_seq ?_
  refine wp_region_lit ?_
  refine ql (.pointer (some ⟨g, 0, none⟩)) (by kernel_rfl) (by kernel_rfl) ?_
  refine ql (.pointer (some ⟨g, 0, none⟩)) (by kernel_rfl) (by kernel_rfl) ?_
  refine ql (.pointer (some ⟨g, 0, none⟩)) (by kernel_rfl) (by kernel_rfl) ?_
  refine ql (.pointer (some ⟨q, 0, none⟩)) (by kernel_rfl) (R_load (p := ⟨g, 0, none⟩) (by kernel_rfl) (by kernel_rfl) (by kernel_rfl) (HS.old0 hz0)) ?_
  refine qc (f := 34) (args := #[.pointer (some ⟨q, 0, none⟩)]) (by kernel_rfl) (R_call #[.pointer (some ⟨q, 0, none⟩)] Tryd.func34 (by kernel_rfl) (by kernel_rfl) (by kernel_rfl)) ?_
  refine (slen q c A L _ (HS.old0 hq0) (hr.old0 HS) hs hl).mono ?_
  rintro e W1 ⟨rfl, H_⟩
  refine ⟨_, rfl, ?_⟩
  replace HS : St W (owns []) W1 [] := HS.join (F := []) (G := []) H_
  clear H_
  refine ql (.int .i64 (L.length : Int)) (by kernel_rfl) (by kernel_rfl) ?_
  refine wpList_nil ?_
  refine x_then ?_
  refine wp_ret ?_
  refine ret_ (.int .i64 (L.length : Int)) (by kernel_rfl) ?_
  exact ⟨by first | rfl | (congr 1; congr 1; omega), HS⟩

set_option maxRecDepth 100000 in
set_option maxHeartbeats 1000000 in
theorem mwords_mny (g d c : Nat) (A : Option Addr) (ws : List Int) (n : Int) (L : List Int) (W : World) (hz0 : W.cell? ⟨g, 0, none⟩ = some (.pointer none)) (hz1 : W.cell? ⟨g, 1, none⟩ = some (.pointer (some ⟨d, 0, none⟩))) (hz2 : W.cell? ⟨g, 2, none⟩ = some (.int .i64 n)) (hd0 : W.cell? ⟨d, 0, none⟩ = some (.slice A ws.length c)) (hd1 : W.cell? ⟨d, 1, none⟩ = some (.int .i64 n)) (hr : Rd W A (ci .u64 ws)) (hR : Rep ws n L) (hn : n ≤ 1048576) (h0 : 0 ≤ n) : Calls Tryd.prog 24 #[.pointer (some ⟨g, 0, none⟩)] W fun e W' => e = .returned (.int .i64 ((n + 63) / 64)) ∧ St W (owns []) W' [] := by
  have HS : St W (owns []) W [] := St.start W _
  refine calls_enter [.pointer (some ⟨g, 0, none⟩), undef, undef, undef, undef, undef, undef, undef, undef, undef, undef, undef, undef, undef, undef, undef, undef, undef, undef, undef, undef, undef, undef] Tryd.func24 rfl (by kernel_rfl) ?_
  refine wp_seq ?_
  refine wp_region_lit ?_
  refine ql (.int .i64 0) (by kernel_rfl) (by kernel_rfl) ?_
  refine wpList_nil ?_
  refine x_then ?_
  refine wp_seq ?_
  refine wp_block ?_
  refine wp_seq ?_
  refine wp_region_lit ?_
  refine ql (.pointer (some ⟨g, 0, none⟩)) (by kernel_rfl) (by kernel_rfl) ?_
  refine ql (.bool false) (by kernel_rfl) (by kernel_rfl) ?_
  refine ql (.bool false) (by kernel_rfl) (by kernel_rfl) ?_
  refine wpList_nil ?_
  refine x_then ?_
  refine wp_cond_false (by kernel_rfl) ?_
  refine wp_seq ?_
  refine wp_region_lit ?_
  refine ql (.pointer (some ⟨g, 0, none⟩)) (by kernel_rfl) (by kernel_rfl) ?_
  refine ql (.pointer (some ⟨g, 0, none⟩)) (by kernel_rfl) (by kernel_rfl) ?_
  refine ql (.pointer (some ⟨g, 1, none⟩)) (by kernel_rfl) (by kernel_rfl) ?_
  refine ql (.pointer (some ⟨d, 0, none⟩)) (by kernel_rfl) (R_load (p := ⟨g, 1, none⟩) (by kernel_rfl) (by kernel_rfl) (by kernel_rfl) (HS.old0 hz1)) ?_
  refine ql (.bool true) (by kernel_rfl) (by kernel_rfl) ?_
  refine ql (.bool true) (by kernel_rfl) (by kernel_rfl) ?_
  refine wpList_nil ?_
  refine x_then ?_
  refine wp_cond_true (by kernel_rfl) ?_
  refine wp_seq ?_
  refine wp_region_lit ?_
  refine ql (.pointer (some ⟨g, 0, none⟩)) (by kernel_rfl) (by kernel_rfl) ?_
  refine ql (.pointer (some ⟨g, 0, none⟩)) (by kernel_rfl) (by kernel_rfl) ?_
  refine ql (.pointer (some ⟨g, 2, none⟩)) (by kernel_rfl) (by kernel_rfl) ?_
  refine ql (.int .i64 n) (by kernel_rfl) (R_load (p := ⟨g, 2, none⟩) (by kernel_rfl) (by kernel_rfl) (by kernel_rfl) (HS.old0 hz2)) ?_
  refine ql (.int .i64 (n + 63)) (by kernel_rfl) (R_int (by kernel_rfl) (w64 (by omega))) ?_
  refine ql (.int .i64 ((n + 63) / 64)) (by kernel_rfl) (R_quo (by kernel_rfl) (by kernel_rfl) (by omega) (by omega) (by decide)) ?_
  refine ql (.int .i64 ((n + 63) / 64)) (by kernel_rfl) (by kernel_rfl) ?_
  refine wpList_nil ?_
  refine x_then ?_
  refine wp_ret ?_
  refine x_inbR ?_
  refine x_thenR ?_
  refine ret_ (.int .i64 ((n + 63) / 64)) (by kernel_rfl) ?_
  exact ⟨by first | rfl | (congr 1; congr 1; omega), HS⟩

theorem mwords (g : Nat) (n : Int) (L : List Int) (x : MxF) (W : World) (hP : (many (mxE 53 74 21 62 63 g n L x)).P W) (hx : x.ok n L) (h0 : 0 ≤ n) (hn : n ≤ 1048576) : Calls Tryd.prog 24 #[.pointer (some ⟨g, 0, none⟩)] W fun e W' => e = .returned (.int .i64 (wrd x n L)) ∧ St W (owns []) W' [] := by
  rcases x with ⟨q, c, A⟩ | ⟨d, c, A, ws⟩
  · obtain ⟨a, b, c1, d, e⟩ := few_P hP
    exact mwords_few g q c A n L W a b c1 d e hx.1 (by have := hx.2.2; omega)
  · obtain ⟨a, b, c1, d1, d2, e⟩ := mny_P hP
    exact mwords_mny g d c A ws n L W a b c1 d1 d2 e hx.1 hn h0

set_option maxRecDepth 100000 in
set_option maxHeartbeats 1000000 in
theorem mdense_few (g q c : Nat) (A : Option Addr) (n : Int) (L : List Int) (W : World) (hz0 : W.cell? ⟨g, 0, none⟩ = some (.pointer (some ⟨q, 0, none⟩))) (hz1 : W.cell? ⟨g, 1, none⟩ = some (.pointer none)) (hz2 : W.cell? ⟨g, 2, none⟩ = some (.int .i64 n)) (hq0 : W.cell? ⟨q, 0, none⟩ = some (.slice A L.length c)) (hr : Rd W A (ci .i32 L)) (hs : S31 L) (hl : L.length ≤ 100000) : Calls Tryd.prog 23 #[.pointer (some ⟨g, 0, none⟩)] W fun e W' => e = .returned (.bool false) ∧ St W (owns []) W' [] := by
  have HS : St W (owns []) W [] := St.start W _
  refine calls_enter [.pointer (some ⟨g, 0, none⟩), undef, undef, undef, undef, undef, undef, undef, undef, undef, undef, undef] Tryd.func23 rfl (by kernel_rfl) ?_
  refine wp_seq ?_
  refine wp_region_lit ?_
  refine ql (.bool false) (by kernel_rfl) (by kernel_rfl) ?_
  refine wpList_nil ?_
  refine x_then ?_
  refine wp_seq ?_
  refine wp_region_lit ?_
  refine ql (.pointer (some ⟨g, 0, none⟩)) (by kernel_rfl) (by kernel_rfl) ?_
  refine ql (.bool true) (by kernel_rfl) (by kernel_rfl) ?_
  refine ql (.bool true) (by kernel_rfl) (by kernel_rfl) ?_
  refine ql (.pointer (some ⟨g, 0, none⟩)) (by kernel_rfl) (by kernel_rfl) ?_
  refine ql (.pointer (some ⟨g, 0, none⟩)) (by kernel_rfl) (by kernel_rfl) ?_
  refine ql (.pointer (some ⟨g, 1, none⟩)) (by kernel_rfl) (by kernel_rfl) ?_
  refine ql (.pointer none) (by kernel_rfl) (R_load (p := ⟨g, 1, none⟩) (by kernel_rfl) (by kernel_rfl) (by kernel_rfl) (HS.old0 hz1)) ?_
  refine ql (.bool false) (by kernel_rfl) (by kernel_rfl) ?_
  refine ql (.bool false) (by kernel_rfl) (by kernel_rfl) ?_
  refine ql (.bool false) (by kernel_rfl) (by kernel_rfl) ?_
  refine wpList_nil ?_
  refine x_then ?_
  refine wp_ret ?_
  refine ret_ (.bool false) (by kernel_rfl) ?_
  exact ⟨by first | rfl | (congr 1; congr 1; omega), HS⟩

set_option maxRecDepth 100000 in
set_option maxHeartbeats 1000000 in
theorem mdense_mny (g d c : Nat) (A : Option Addr) (ws : List Int) (n : Int) (L : List Int) (W : World) (hz0 : W.cell? ⟨g, 0, none⟩ = some (.pointer none)) (hz1 : W.cell? ⟨g, 1, none⟩ = some (.pointer (some ⟨d, 0, none⟩))) (hz2 : W.cell? ⟨g, 2, none⟩ = some (.int .i64 n)) (hd0 : W.cell? ⟨d, 0, none⟩ = some (.slice A ws.length c)) (hd1 : W.cell? ⟨d, 1, none⟩ = some (.int .i64 n)) (hr : Rd W A (ci .u64 ws)) (hR : Rep ws n L) (hn : n ≤ 1048576) (h0 : 0 ≤ n) : Calls Tryd.prog 23 #[.pointer (some ⟨g, 0, none⟩)] W fun e W' => e = .returned (.bool true) ∧ St W (owns []) W' [] := by
  have HS : St W (owns []) W [] := St.start W _
  refine calls_enter [.pointer (some ⟨g, 0, none⟩), undef, undef, undef, undef, undef, undef, undef, undef, undef, undef, undef] Tryd.func23 rfl (by kernel_rfl) ?_
  refine wp_seq ?_
  refine wp_region_lit ?_
  refine ql (.bool false) (by kernel_rfl) (by kernel_rfl) ?_
  refine wpList_nil ?_
  refine x_then ?_
  refine wp_seq ?_
  refine wp_region_lit ?_
  refine ql (.pointer (some ⟨g, 0, none⟩)) (by kernel_rfl) (by kernel_rfl) ?_
  refine ql (.bool true) (by kernel_rfl) (by kernel_rfl) ?_
  refine ql (.bool true) (by kernel_rfl) (by kernel_rfl) ?_
  refine ql (.pointer (some ⟨g, 0, none⟩)) (by kernel_rfl) (by kernel_rfl) ?_
  refine ql (.pointer (some ⟨g, 0, none⟩)) (by kernel_rfl) (by kernel_rfl) ?_
  refine ql (.pointer (some ⟨g, 1, none⟩)) (by kernel_rfl) (by kernel_rfl) ?_
  refine ql (.pointer (some ⟨d, 0, none⟩)) (by kernel_rfl) (R_load (p := ⟨g, 1, none⟩) (by kernel_rfl) (by kernel_rfl) (by kernel_rfl) (HS.old0 hz1)) ?_
  refine ql (.bool true) (by kernel_rfl) (by kernel_rfl) ?_
  refine ql (.bool true) (by kernel_rfl) (by kernel_rfl) ?_
  refine ql (.bool true) (by kernel_rfl) (by kernel_rfl) ?_
  refine wpList_nil ?_
  refine x_then ?_
  refine wp_ret ?_
  refine ret_ (.bool true) (by kernel_rfl) ?_
  exact ⟨by first | rfl | (congr 1; congr 1; omega), HS⟩

theorem mdense (g : Nat) (n : Int) (L : List Int) (x : MxF) (W : World) (hP : (many (mxE 53 74 21 62 63 g n L x)).P W) (hx : x.ok n L) (h0 : 0 ≤ n) (hn : n ≤ 1048576) : Calls Tryd.prog 23 #[.pointer (some ⟨g, 0, none⟩)] W fun e W' => e = .returned (.bool x.b) ∧ St W (owns []) W' [] := by
  rcases x with ⟨q, c, A⟩ | ⟨d, c, A, ws⟩
  · obtain ⟨a, b, c1, d, e⟩ := few_P hP
    exact mdense_few g q c A n L W a b c1 d e hx.1 (by have := hx.2.2; omega)
  · obtain ⟨a, b, c1, d1, d2, e⟩ := mny_P hP
    exact mdense_mny g d c A ws n L W a b c1 d1 d2 e hx.1 hn h0

set_option maxRecDepth 100000 in
set_option maxHeartbeats 1000000 in
theorem msize (g : Nat) (n : Int) (W : World) (hz2 : W.cell? ⟨g, 2, none⟩ = some (.int .i64 n)) : Calls Tryd.prog 21 #[.pointer (some ⟨g, 0, none⟩)] W fun e W' => e = .returned (.int .i64 n) ∧ St W (owns []) W' [] := by
  have HS : St W (owns []) W [] := St.start W _
  refine calls_enter [.pointer (some ⟨g, 0, none⟩), undef, undef, undef, undef, undef, undef, undef, undef] Tryd.func21 rfl (by kernel_rfl) ?_
  refine wp_seq ?_
  refine wp_region_lit ?_
  refine ql (.int .i64 0) (by kernel_rfl) (by kernel_rfl) ?_
  refine wpList_nil ?_
  refine x_then ?_
  refine wp_seq ?_
  refine wp_seq ?_
  refine wp_region_lit ?_
  refine ql (.pointer (some ⟨g, 0, none⟩)) (by kernel_rfl) (by kernel_rfl) ?_
  refine ql (.bool false) (by kernel_rfl) (by kernel_rfl) ?_
  refine wpList_nil ?_
  refine x_then ?_
  refine wp_cond_false (by kernel_rfl) ?_
  refine wp_skip ?_
  refine x_then ?_
  refine wp_seq ?_
  refine wp_region_lit ?_
  refine ql (.pointer (some ⟨g, 0, none⟩)) (by kernel_rfl) (by kernel_rfl) ?_
  refine ql (.pointer (some ⟨g, 0, none⟩)) (by kernel_rfl) (by kernel_rfl) ?_
  refine ql (.pointer (some ⟨g, 2, none⟩)) (by kernel_rfl) (by kernel_rfl) ?_
  refine ql (.int .i64 n) (by kernel_rfl) (R_load (p := ⟨g, 2, none⟩) (by kernel_rfl) (by kernel_rfl) (by kernel_rfl) (HS.old0 hz2)) ?_
  refine ql (.int .i64 n) (by kernel_rfl) (by kernel_rfl) ?_
  refine wpList_nil ?_
  refine x_then ?_
  refine wp_ret ?_
  refine ret_ (.int .i64 n) (by kernel_rfl) ?_
  exact ⟨rfl, HS⟩

set_option maxRecDepth 100000 in
set_option maxHeartbeats 1000000 in
theorem mnew_arg (n : Int) (W : World) (hn : n < 0) : Calls Tryd.prog 6 #[.int .i64 n] W fun e W' => e = .returned (.tuple #[.pointer none, .int .i64 2]) ∧ St W (owns []) W' [] := by
  have HS : St W (owns []) W [] := St.start W _
  refine calls_enter [.int .i64 n, undef, undef, undef, undef, undef, undef, undef, undef, undef, undef, undef, undef, undef] Tryd.func6 rfl (by kernel_rfl) ?_
  refine wp_seq ?_
  refine wp_region_lit ?_
  refine ql (.pointer none) (by kernel_rfl) (by kernel_rfl) ?_
  refine ql (.int .i64 0) (by kernel_rfl) (by kernel_rfl) ?_
  refine wpList_nil ?_
  refine x_then ?_
  refine wp_seq ?_
  refine wp_block ?_
  refine wp_seq ?_
  refine wp_region_lit ?_
  refine ql (.int .i64 n) (by kernel_rfl) (by kernel_rfl) ?_
  refine ql (.bool true) (by kernel_rfl) (R_bool (p := n < (0 : Int)) (by kernel_rfl) (by omega)) ?_
  refine ql (.bool true) (by kernel_rfl) (by kernel_rfl) ?_
  refine wpList_nil ?_
  refine x_then ?_
  refine wp_cond_true (by kernel_rfl) ?_
  refine wp_seq ?_
  refine wp_region_lit ?_
  refine ql (.pointer none) (by kernel_rfl) (by kernel_rfl) ?_
  refine ql (.int .i64 2) (by kernel_rfl) (by kernel_rfl) ?_
  refine wpList_nil ?_
  refine x_then ?_
  refine wp_ret ?_
  refine x_inbR ?_
  refine x_thenR ?_
  refine ret_ (.tuple #[.pointer none, .int .i64 2]) (by kernel_rfl) ?_
  exact ⟨rfl, HS⟩

set_option maxRecDepth 100000 in
set_option maxHeartbeats 1000000 in
theorem mnew_over (n : Int) (W : World) (hn : 1048576 < n) : Calls Tryd.prog 6 #[.int .i64 n] W fun e W' => e = .returned (.tuple #[.pointer none, .int .i64 5]) ∧ St W (owns []) W' [] := by
  have HS : St W (owns []) W [] := St.start W _
  refine calls_enter [.int .i64 n, undef, undef, undef, undef, undef, undef, undef, undef, undef, undef, undef, undef, undef] Tryd.func6 rfl (by kernel_rfl) ?_
  refine wp_seq ?_
  refine wp_region_lit ?_
  refine ql (.pointer none) (by kernel_rfl) (by kernel_rfl) ?_
  refine ql (.int .i64 0) (by kernel_rfl) (by kernel_rfl) ?_
  refine wpList_nil ?_
  refine x_then ?_
  refine wp_seq ?_
  refine wp_block ?_
  refine wp_seq ?_
  refine wp_region_lit ?_
  refine ql (.int .i64 n) (by kernel_rfl) (by kernel_rfl) ?_
  refine ql (.bool false) (by kernel_rfl) (R_nbool (p := n < (0 : Int)) (by kernel_rfl) (by omega)) ?_
  refine ql (.bool false) (by kernel_rfl) (by kernel_rfl) ?_
  refine wpList_nil ?_
  refine x_then ?_
  refine wp_cond_false (by kernel_rfl) ?_
  refine wp_seq ?_
  refine wp_region_lit ?_
  refine ql (.int .i64 n) (by kernel_rfl) (by kernel_rfl) ?_
  refine ql (.bool true) (by kernel_rfl) (R_bool (p := n > (1048576 : Int)) (by kernel_rfl) (by omega)) ?_
  refine ql (.bool true) (by kernel_rfl) (by kernel_rfl) ?_
  refine wpList_nil ?_
  refine x_then ?_
  refine wp_cond_true (by kernel_rfl) ?_
  refine wp_seq ?_
  refine wp_region_lit ?_
  refine ql (.pointer none) (by kernel_rfl) (by kernel_rfl) ?_
  refine ql (.int .i64 5) (by kernel_rfl) (by kernel_rfl) ?_
  refine wpList_nil ?_
  refine x_then ?_
  refine wp_ret ?_
  refine x_inbR ?_
  refine x_thenR ?_
  refine ret_ (.tuple #[.pointer none, .int .i64 5]) (by kernel_rfl) ?_
  exact ⟨rfl, HS⟩

set_option maxRecDepth 100000 in
set_option maxHeartbeats 1000000 in
theorem mnew_ok (n : Int) (W : World) (h0 : 0 ≤ n) (hn : n ≤ 1048576) : Calls Tryd.prog 6 #[.int .i64 n] W fun e W' => ∃ g x, e = .returned (.tuple #[.pointer (some ⟨g, 0, none⟩), .int .i64 0]) ∧ St W (owns []) W' [many (mxE 53 74 21 62 63 g n [] x)] ∧ x.ok n [] ∧ x.b = false := by
  have HS : St W (owns []) W [] := St.start W _
  refine calls_enter [.int .i64 n, undef, undef, undef, undef, undef, undef, undef, undef, undef, undef, undef, undef, undef] Tryd.func6 rfl (by kernel_rfl) ?_
  refine wp_seq ?_
  refine wp_region_lit ?_
  refine ql (.pointer none) (by kernel_rfl) (by kernel_rfl) ?_
  refine ql (.int .i64 0) (by kernel_rfl) (by kernel_rfl) ?_
  refine wpList_nil ?_
  refine x_then ?_
  refine wp_seq ?_
  refine wp_block ?_
  refine wp_seq ?_
  refine wp_region_lit ?_
  refine ql (.int .i64 n) (by kernel_rfl) (by kernel_rfl) ?_
  refine ql (.bool false) (by kernel_rfl) (R_nbool (p := n < (0 : Int)) (by kernel_rfl) (by omega)) ?_
  refine ql (.bool false) (by kernel_rfl) (by kernel_rfl) ?_
  refine wpList_nil ?_
  refine x_then ?_
  refine wp_cond_false (by kernel_rfl) ?_
  refine wp_seq ?_
  refine wp_region_lit ?_
  refine ql (.int .i64 n) (by kernel_rfl) (by kernel_rfl) ?_
  refine ql (.bool false) (by kernel_rfl) (R_nbool (p := n > (1048576 : Int)) (by kernel_rfl) (by omega)) ?_
  refine ql (.bool false) (by kernel_rfl) (by kernel_rfl) ?_
  refine wpList_nil ?_
  refine x_then ?_
  refine wp_cond_false (by kernel_rfl) ?_
  refine wp_skip ?_
  refine x_inb ?_
  refine x_then ?_
  refine wp_seq ?_
  refine wp_region_lit ?_
  refine qc (f := 25) (args := #[.slice none 0 0]) (by kernel_rfl) (R_call #[.slice none 0 0] Tryd.func25 (by kernel_rfl) (by kernel_rfl) (by kernel_rfl)) ?_
  refine (sof none 0 [] _ rd_nil (by decide)).mono ?_
  rintro e W4 ⟨g1, A2, c3, rfl, H_⟩
  refine ⟨_, rfl, ?_⟩
  replace HS : St W (owns []) W4 [blk g1 [.slice A2 (([]).length) c3] 74, row A2 (([]).length) c3 (ci .i32 ([])) 21 1] := HS.join (F := []) (G := [blk g1 [.slice A2 (([]).length) c3] 74, row A2 (([]).length) c3 (ci .i32 ([])) 21 1]) H_
  clear H_
  refine ql (.int .i64 n) (by kernel_rfl) (by kernel_rfl) ?_
  refine ql (.agg #[.pointer (some ⟨g1, 0, none⟩), .pointer none, .int .i64 n]) (by kernel_rfl) (by kernel_rfl) ?_
  refine kb HS [.pointer (some ⟨g1, 0, none⟩), .pointer none, .int .i64 n] 53 (fun g => .pointer (some ⟨g, 0, none⟩)) (by kernel_rfl) (by kernel_rfl) ?_
  intro g5 W6 H_
  replace HS : St W (owns []) W6 [blk g5 [.pointer (some ⟨g1, 0, none⟩), .pointer none, .int .i64 n] 53, blk g1 [.slice A2 (([]).length) c3] 74, row A2 (([]).length) c3 (ci .i32 ([])) 21 1] := H_
  clear H_
  refine ql (.pointer (some ⟨g5, 0, none⟩)) (by kernel_rfl) (by kernel_rfl) ?_
  refine ql (.int .i64 0) (by kernel_rfl) (by kernel_rfl) ?_
  refine wpList_nil ?_
  refine x_then ?_
  refine wp_ret ?_
  refine ret_ (.tuple #[.pointer (some ⟨g5, 0, none⟩), .int .i64 0]) (by kernel_rfl) ?_
  exact ⟨g5, .few g1 c3 A2, rfl, St.close1 HS, ⟨S31.nil, (fun x hx => nomatch hx), (by decide)⟩, rfl⟩

set_option maxRecDepth 100000 in
set_option maxHeartbeats 1000000 in
theorem mwid_s (g q c : Nat) (A : Option Addr) (n : Int) (L : List Int) (W : World) (M : Nat → Prop) (HS : St W M W [blk g [.pointer (some ⟨q, 0, none⟩), .pointer none, .int .i64 n] 53, blk q [.slice A L.length c] 74, row A L.length c (ci .i32 L) 21 1]) (hs : S31 L) (hlim : ∀ x ∈ L, x < n) (h0 : 0 ≤ n) (hn : n ≤ 1048576) (hl : L.length ≤ 8) : Calls Tryd.prog 32 #[.pointer (some ⟨g, 0, none⟩)] W fun e W' => ∃ x', e = .returned (.tuple #[]) ∧ St W M W' [many (mxE 53 74 21 62 63 g n L x')] ∧ x'.ok n L ∧ x'.b = decide (8 < L.length) := by
  refine calls_enterM [.pointer (some ⟨g, 0, none⟩), undef, undef, undef, undef, undef, undef, undef, undef, undef, undef, undef, undef, undef, undef, undef, undef, undef, undef, undef, undef, undef, undef, undef, undef, undef, undef, undef, undef, undef, undef, undef, undef, undef, undef, undef, undef, undef, undef, undef, undef, undef] Tryd.func32 rfl (by kernel_rfl) ?_
  refine wp_seq ?_
  refine wp_region_lit ?_
  refine kb HS [.pointer (some ⟨g, 0, none⟩)] 24 (fun g => .pointer (some ⟨g, 0, none⟩)) (by kernel_rfl) (by kernel_rfl) ?_
  intro g1 W2 H_
  replace HS : St W M W2 [blk g1 [.pointer (some ⟨g, 0, none⟩)] 24, blk g [.pointer (some ⟨q, 0, none⟩), .pointer none, .int .i64 n] 53, blk q [.slice A L.length c] 74, row A L.length c (ci .i32 L) 21 1] := H_
  clear H_
  refine wpList_nil ?_
  refine x_then ?_
  refine wp_seq ?_
  refine wp_seq ?_
  refine wp_region_lit ?_
  refine ql (.pointer (some ⟨g, 0, none⟩)) (by kernel_rfl) (R_load (p := ⟨g1, 0, none⟩) (by kernel_rfl) (by kernel_rfl) (by kernel_rfl) (HS.cell (i := 0) (j := 0) rfl rfl)) ?_
  refine ql (.pointer (some ⟨g, 0, none⟩)) (by kernel_rfl) (by kernel_rfl) ?_
  refine ql (.pointer (some ⟨g, 1, none⟩)) (by kernel_rfl) (by kernel_rfl) ?_
  refine ql (.pointer none) (by kernel_rfl) (R_load (p := ⟨g, 1, none⟩) (by kernel_rfl) (by kernel_rfl) (by kernel_rfl) (HS.cell (i := 1) (j := 1) rfl rfl)) ?_
  refine ql (.bool false) (by kernel_rfl) (by kernel_rfl) ?_
  refine ql (.bool false) (by kernel_rfl) (by kernel_rfl) ?_
  refine ql (.pointer (some ⟨g, 0, none⟩)) (by kernel_rfl) (R_load (p := ⟨g1, 0, none⟩) (by kernel_rfl) (by kernel_rfl) (by kernel_rfl) (HS.cell (i := 0) (j := 0) rfl rfl)) ?_
  refine ql (.pointer (some ⟨g, 0, none⟩)) (by kernel_rfl) (by kernel_rfl) ?_
  refine ql (.pointer (some ⟨g, 0, none⟩)) (by kernel_rfl) (by kernel_rfl) ?_
  refine ql (.pointer (some ⟨q, 0, none⟩)) (by kernel_rfl) (R_load (p := ⟨g, 0, none⟩) (by kernel_rfl) (by kernel_rfl) (by kernel_rfl) (HS.cell (i := 1) (j := 0) rfl rfl)) ?_
  refine qc (f := 34) (args := #[.pointer (some ⟨q, 0, none⟩)]) (by kernel_rfl) (R_call #[.pointer (some ⟨q, 0, none⟩)] Tryd.func34 (by kernel_rfl) (by kernel_rfl) (by kernel_rfl)) ?_
  refine (slen q c A L _ (HS.cell (i := 2) (j := 0) rfl rfl) (Rd.row HS (i := 3) rfl) hs (by omega)).mono ?_
  rintro e W3 ⟨rfl, H_⟩
  refine ⟨_, rfl, ?_⟩
  replace HS : St W M W3 [blk g1 [.pointer (some ⟨g, 0, none⟩)] 24, blk g [.pointer (some ⟨q, 0, none⟩), .pointer none, .int .i64 n] 53, blk q [.slice A L.length c] 74, row A L.length c (ci .i32 L) 21 1] := HS.join (F := []) (G := []) H_
  clear H_
  refine ql (.bool true) (by kernel_rfl) (R_bool (p := (L.length : Int) ≤ (8 : Int)) (by kernel_rfl) (by omega)) ?_
  refine ql (.bool true) (by kernel_rfl) (by kernel_rfl) ?_
  refine wpList_nil ?_
  refine x_then ?_
  refine wp_cond_true (by kernel_rfl) ?_
  refine wp_ret ?_
  refine x_thenR ?_
  refine retM_ (.tuple #[]) (by kernel_rfl) ?_
  replace HS := HS.drop1
  exact ⟨.few q c A, rfl, St.close1 HS, ⟨hs, hlim, hl⟩, by rw [decide_eq_false (by omega)]; rfl⟩

set_option maxRecDepth 100000 in
set_option maxHeartbeats 1000000 in
theorem mwid_b (g q c : Nat) (A : Option Addr) (n : Int) (L : List Int) (W : World) (M : Nat → Prop) (HS : St W M W [blk g [.pointer (some ⟨q, 0, none⟩), .pointer none, .int .i64 n] 53, blk q [.slice A L.length c] 74, row A L.length c (ci .i32 L) 21 1]) (hs : S31 L) (hlim : ∀ x ∈ L, x < n) (h0 : 0 ≤ n) (hn : n ≤ 1048576) (hl : 8 < L.length) (hl2 : L.length ≤ 100000) : Calls Tryd.prog 32 #[.pointer (some ⟨g, 0, none⟩)] W fun e W' => ∃ x', e = .returned (.tuple #[]) ∧ St W M W' [many (mxE 53 74 21 62 63 g n L x')] ∧ x'.ok n L ∧ x'.b = decide (8 < L.length) := by
  refine calls_enterM [.pointer (some ⟨g, 0, none⟩), undef, undef, undef, undef, undef, undef, undef, undef, undef, undef, undef, undef, undef, undef, undef, undef, undef, undef, undef, undef, undef, undef, undef, undef, undef, undef, undef, undef, undef, undef, undef, undef, undef, undef, undef, undef, undef, undef, undef, undef, undef] Tryd.func32 rfl (by kernel_rfl) ?_
  refine wp_seq ?_
  refine wp_region_lit ?_
  refine kb HS [.pointer (some ⟨g, 0, none⟩)] 24 (fun g => .pointer (some ⟨g, 0, none⟩)) (by kernel_rfl) (by kernel_rfl) ?_
  intro g1 W2 H_
  replace HS : St W M W2 [blk g1 [.pointer (some ⟨g, 0, none⟩)] 24, blk g [.pointer (some ⟨q, 0, none⟩), .pointer none, .int .i64 n] 53, blk q [.slice A L.length c] 74, row A L.length c (ci .i32 L) 21 1] := H_
  clear H_
  refine wpList_nil ?_
  refine x_then ?_
  refine wp_seq ?_
  refine wp_seq ?_
  refine wp_region_lit ?_
  refine ql (.pointer (some ⟨g, 0, none⟩)) (by kernel_rfl) (R_load (p := ⟨g1, 0, none⟩) (by kernel_rfl) (by kernel_rfl) (by kernel_rfl) (HS.cell (i := 0) (j := 0) rfl rfl)) ?_
  refine ql (.pointer (some ⟨g, 0, none⟩)) (by kernel_rfl) (by kernel_rfl) ?_
  refine ql (.pointer (some ⟨g, 1, none⟩)) (by kernel_rfl) (by kernel_rfl) ?_
  refine ql (.pointer none) (by kernel_rfl) (R_load (p := ⟨g, 1, none⟩) (by kernel_rfl) (by kernel_rfl) (by kernel_rfl) (HS.cell (i := 1) (j := 1) rfl rfl)) ?_
  refine ql (.bool false) (by kernel_rfl) (by kernel_rfl) ?_
  refine ql (.bool false) (by kernel_rfl) (by kernel_rfl) ?_
  refine ql (.pointer (some ⟨g, 0, none⟩)) (by kernel_rfl) (R_load (p := ⟨g1, 0, none⟩) (by kernel_rfl) (by kernel_rfl) (by kernel_rfl) (HS.cell (i := 0) (j := 0) rfl rfl)) ?_
  refine ql (.pointer (some ⟨g, 0, none⟩)) (by kernel_rfl) (by kernel_rfl) ?_
  refine ql (.pointer (some ⟨g, 0, none⟩)) (by kernel_rfl) (by kernel_rfl) ?_
  refine ql (.pointer (some ⟨q, 0, none⟩)) (by kernel_rfl) (R_load (p := ⟨g, 0, none⟩) (by kernel_rfl) (by kernel_rfl) (by kernel_rfl) (HS.cell (i := 1) (j := 0) rfl rfl)) ?_
  refine qc (f := 34) (args := #[.pointer (some ⟨q, 0, none⟩)]) (by kernel_rfl) (R_call #[.pointer (some ⟨q, 0, none⟩)] Tryd.func34 (by kernel_rfl) (by kernel_rfl) (by kernel_rfl)) ?_
  refine (slen q c A L _ (HS.cell (i := 2) (j := 0) rfl rfl) (Rd.row HS (i := 3) rfl) hs (by omega)).mono ?_
  rintro e W3 ⟨rfl, H_⟩
  refine ⟨_, rfl, ?_⟩
  replace HS : St W M W3 [blk g1 [.pointer (some ⟨g, 0, none⟩)] 24, blk g [.pointer (some ⟨q, 0, none⟩), .pointer none, .int .i64 n] 53, blk q [.slice A L.length c] 74, row A L.length c (ci .i32 L) 21 1] := HS.join (F := []) (G := []) H_
  clear H_
  refine ql (.bool false) (by kernel_rfl) (R_nbool (p := (L.length : Int) ≤ (8 : Int)) (by kernel_rfl) (by omega)) ?_
  refine ql (.bool false) (by kernel_rfl) (by kernel_rfl) ?_
  refine wpList_nil ?_
  refine x_then ?_
  refine wp_cond_false (by kernel_rfl) ?_
  refine wp_skip ?_
  refine x_then ?_
  refine wp_seq ?_
  replace HS : St W M W3 [blk g [.pointer (some ⟨q, 0, none⟩), .pointer none, .int .i64 n] 53, blk g1 [.pointer (some ⟨g, 0, none⟩)] 24, blk q [.slice A L.length c] 74, row A L.length c (ci .i32 L) 21 1] := HS.perm (perm_ [1, 0, 2, 3] (by kernel_rfl) rfl)
  refine t_start HS (fun k_ => (blk g [.pointer (some ⟨q, 0, none⟩), .pointer none, .int .i64 n] 53).own k_) 12 (by kernel_rfl) rfl ?_
  intro W4 H_ HD_
  clear HD_
  replace HS : St W M W4 [blk g [.pointer (some ⟨q, 0, none⟩), .pointer none, .int .i64 n] 53, blk g1 [.pointer (some ⟨g, 0, none⟩)] 24, blk q [.slice A L.length c] 74, row A L.length c (ci .i32 L) 21 1] := H_
  clear H_
  have HV := HS
  have HK := Kpt.refl (fun k_ => (blk g [.pointer (some ⟨q, 0, none⟩), .pointer none, .int .i64 n] 53).own k_) W4
  refine t_q (n := 11) 0 (.pointer (some ⟨g, 0, none⟩)) rfl (by kernel_rfl) (by kernel_rfl) (fun _ _ _ h => h) (fun w' hk => (R_load (p := ⟨g1, 0, none⟩) (by kernel_rfl) (by kernel_rfl) (by kernel_rfl) (hk.cellN (HV.sepB (a := 1) (b := 0) (by decide) rfl rfl) (HV.cell (i := 1) (j := 0) rfl rfl)))) HK ?_
  refine t_q (n := 10) 1 (.pointer (some ⟨g, 0, none⟩)) rfl (by kernel_rfl) (by kernel_rfl) (fun _ _ _ h => h) (fun w' hk => (R_load (p := ⟨g1, 0, none⟩) (by kernel_rfl) (by kernel_rfl) (by kernel_rfl) (hk.cellN (HV.sepB (a := 1) (b := 0) (by decide) rfl rfl) (HV.cell (i := 1) (j := 0) rfl rfl)))) HK ?_
  refine t_q (n := 9) 2 (.pointer (some ⟨g, 0, none⟩)) rfl (by kernel_rfl) (by kernel_rfl) (fun _ _ _ h => h) (fun w' hk => (by kernel_rfl)) HK ?_
  refine t_q (n := 8) 3 (.pointer (some ⟨g, 2, none⟩)) rfl (by kernel_rfl) (by kernel_rfl) (fun _ _ _ h => h) (fun w' hk => (by kernel_rfl)) HK ?_
  refine t_e (n := 7) 4 (.int .i64 n) rfl (by kernel_rfl) (by kernel_rfl) (R_load (p := ⟨g, 2, none⟩) (by kernel_rfl) (by kernel_rfl) (by kernel_rfl) (HS.cell (i := 0) (j := 2) rfl rfl)) HK ?_
  refine t_c (n := 6) 5 (f := 10) (args := #[.int .i64 n]) rfl (by kernel_rfl) (by kernel_rfl) (R_call #[.int .i64 n] Tryd.func10 (by kernel_rfl) (by kernel_rfl) (by kernel_rfl)) ?_
  refine (dnew_ok n _ (by omega) (by omega)).mono ?_
  rintro e W10 ⟨g5, a6, c7, ws8, rfl, H_, hR9⟩
  refine ⟨_, rfl, HK.tr H_.kept.nil, ?_⟩
  replace HK := HK.tr H_.kept.nil
  replace HS : St W M W10 [blk g5 [.slice (some ⟨a6, 0, none⟩) ws8.length c7, .int .i64 n] 62, row (some ⟨a6, 0, none⟩) ws8.length c7 (ci .u64 ws8) 63 1, blk g [.pointer (some ⟨q, 0, none⟩), .pointer none, .int .i64 n] 53, blk g1 [.pointer (some ⟨g, 0, none⟩)] 24, blk q [.slice A L.length c] 74, row A L.length c (ci .i32 L) 21 1] := HS.join (F := []) (G := [blk g5 [.slice (some ⟨a6, 0, none⟩) ws8.length c7, .int .i64 n] 62, row (some ⟨a6, 0, none⟩) ws8.length c7 (ci .u64 ws8) 63 1]) H_
  clear H_
  refine t_q (n := 5) 6 (.tuple #[.pointer (some ⟨g5, 0, none⟩), .int .i64 0]) rfl (by kernel_rfl) (by kernel_rfl) (fun _ _ _ h => h) (fun w' hk => (by kernel_rfl)) HK ?_
  refine t_q (n := 4) 7 (.pointer (some ⟨g5, 0, none⟩)) rfl (by kernel_rfl) (by kernel_rfl) (fun _ _ _ h => h) (fun w' hk => (by kernel_rfl)) HK ?_
  refine t_q (n := 3) 8 (.int .i64 0) rfl (by kernel_rfl) (by kernel_rfl) (fun _ _ _ h => h) (fun w' hk => (by kernel_rfl)) HK ?_
  refine t_q (n := 2) 9 (.pointer (some ⟨g, 0, none⟩)) rfl (by kernel_rfl) (by kernel_rfl) (fun _ _ _ h => h) (fun w' hk => (by kernel_rfl)) HK ?_
  refine t_q (n := 1) 10 (.pointer (some ⟨g, 1, none⟩)) rfl (by kernel_rfl) (by kernel_rfl) (fun _ _ _ h => h) (fun w' hk => (by kernel_rfl)) HK ?_
  obtain ⟨W11, hrun_, H_, hk_⟩ := ex_ks (P := Tryd.prog) (ty := 0) (ps := "mixed.go:61") (af := #[{ on := 10, ground := Go.Ground.data }, { on := 7, ground := Go.Ground.data }, { on := 5, ground := Go.Ground.chain }, { on := 0, ground := Go.Ground.phase }, { on := 1, ground := Go.Ground.phase }, { on := 2, ground := Go.Ground.phase }, { on := 3, ground := Go.Ground.phase }, { on := 4, ground := Go.Ground.phase }, { on := 5, ground := Go.Ground.phase }, { on := 6, ground := Go.Ground.phase }, { on := 7, ground := Go.Ground.phase }, { on := 8, ground := (Go.Ground.textOnly Go.Departure.lateStores) }]) (gd := none) (t := 40) (x := (Go.Operand.tmp 26)) (y := (Go.Operand.tmp 23)) (v := .pointer (some ⟨g5, 0, none⟩)) HS 2 rfl (1) [.pointer (some ⟨g5, 0, none⟩)] (by kernel_rfl) (by kernel_rfl) (by kernel_rfl) (by kernel_rfl) (one_ (by kernel_rfl)) (Nat.le_of_ble_eq_true rfl)
  replace HK := HK.trans hk_ (fun _ h_ => .inl (blk_own h_))
  refine t_s (n := 0) 11 rfl (by kernel_rfl) (by kernel_rfl) hrun_ HK ?_
  clear hk_ hrun_
  replace HS : St W M W11 [blk g5 [.slice (some ⟨a6, 0, none⟩) ws8.length c7, .int .i64 n] 62, row (some ⟨a6, 0, none⟩) ws8.length c7 (ci .u64 ws8) 63 1, blk g [.pointer (some ⟨q, 0, none⟩), .pointer (some ⟨g5, 0, none⟩), .int .i64 n] 53, blk g1 [.pointer (some ⟨g, 0, none⟩)] 24, blk q [.slice A L.length c] 74, row A L.length c (ci .i32 L) 21 1] := H_
  clear H_
  refine t_done (by kernel_rfl) ?_
  clear HV HK
  refine x_then ?_
  refine wp_seq ?_
  refine wp_seq ?_
  refine wp_region_lit ?_
  refine ql (.pointer (some ⟨g, 0, none⟩)) (by kernel_rfl) (R_load (p := ⟨g1, 0, none⟩) (by kernel_rfl) (by kernel_rfl) (by kernel_rfl) (HS.cell (i := 3) (j := 0) rfl rfl)) ?_
  refine ql (.pointer (some ⟨g, 0, none⟩)) (by kernel_rfl) (by kernel_rfl) ?_
  refine ql (.pointer (some ⟨g, 0, none⟩)) (by kernel_rfl) (by kernel_rfl) ?_
  refine ql (.pointer (some ⟨q, 0, none⟩)) (by kernel_rfl) (R_load (p := ⟨g, 0, none⟩) (by kernel_rfl) (by kernel_rfl) (by kernel_rfl) (HS.cell (i := 2) (j := 0) rfl rfl)) ?_
  refine qc (f := 43) (args := #[.pointer (some ⟨q, 0, none⟩)]) (by kernel_rfl) (R_call #[.pointer (some ⟨q, 0, none⟩)] Tryd.func43 (by kernel_rfl) (by kernel_rfl) (by kernel_rfl)) ?_
  refine (sall q _).mono ?_
  rintro e W13 ⟨b12, rfl, H_⟩
  refine ⟨_, rfl, ?_⟩
  replace HS : St W M W13 [blk b12 [.pointer (some ⟨q, 0, none⟩)] 50, blk g5 [.slice (some ⟨a6, 0, none⟩) ws8.length c7, .int .i64 n] 62, row (some ⟨a6, 0, none⟩) ws8.length c7 (ci .u64 ws8) 63 1, blk g [.pointer (some ⟨q, 0, none⟩), .pointer (some ⟨g5, 0, none⟩), .int .i64 n] 53, blk g1 [.pointer (some ⟨g, 0, none⟩)] 24, blk q [.slice A L.length c] 74, row A L.length c (ci .i32 L) 21 1] := HS.join (F := []) (G := [blk b12 [.pointer (some ⟨q, 0, none⟩)] 50]) H_
  clear H_
  refine wpList_nil ?_
  refine x_then ?_
  refine wp_block ?_
  replace HS : St W M W13 [blk g5 [.slice (some ⟨a6, 0, none⟩) ws8.length c7, .int .i64 n] 62, row (some ⟨a6, 0, none⟩) ws8.length c7 (ci .u64 ws8) 63 1, blk b12 [.pointer (some ⟨q, 0, none⟩)] 50, blk g [.pointer (some ⟨q, 0, none⟩), .pointer (some ⟨g5, 0, none⟩), .int .i64 n] 53, blk g1 [.pointer (some ⟨g, 0, none⟩)] 24, blk q [.slice A L.length c] 74, row A L.length c (ci .i32 L) 21 1] := HS.perm (perm_ [1, 2, 0, 3, 4, 5, 6] (by kernel_rfl) rfl)
  have HDT : SpT b12 q c A L _ := ⟨HS.cell (i := 2) (j := 0) rfl rfl, HS.cell (i := 5) (j := 0) rfl rfl, Rd.row HS (i := 6) rfl⟩
  have HSb := HS
  refine rangeF (gf := 53) (lb := #[.pointer (some ⟨b12, 0, none⟩)]) (m := 0) (by kernel_rfl) (enters_of Tryd.func53 (by kernel_rfl) rfl) (sall_stops b12 q c A L _ HDT.hb HDT.h0 HDT.hr hs (by omega) 0) (fun h_ k_ => fun x_ => k_ (h_ x_)) (fun X l_ o_ o2_ _ h1_ h2_ _ => fun x_ => x_.put h1_ h2_)
    (fun pre w' => ∃ (ws_ : List Int), (Rep ws_ n (adds n [] pre)) ∧ St W M w' [blk g5 [.slice (some ⟨a6, 0, none⟩) ws_.length c7, .int .i64 n] 62, row (some ⟨a6, 0, none⟩) ws_.length c7 (ci .u64 ws_) 63 1, blk b12 [.pointer (some ⟨q, 0, none⟩)] 50, blk g [.pointer (some ⟨q, 0, none⟩), .pointer (some ⟨g5, 0, none⟩), .int .i64 n] 53, blk g1 [.pointer (some ⟨g, 0, none⟩)] 24, blk q [.slice A L.length c] 74, row A L.length c (ci .i32 L) 21 1])
    (fun c pre w' => False)
    (fun s_ A_ B_ r_ h_ hg_ hr_ => by obtain ⟨ws_, hR, HS⟩ := h_; exact ⟨ws_, hR, HS.grown (cel_cons blk_cel (cel_cons row_cel (cel_cons blk_cel (cel_cons blk_cel (cel_cons blk_cel (cel_cons blk_cel (cel_cons row_cel cel_nil))))))) HSb.le hg_ hr_⟩)
    (fun _ _ _ _ _ h_ _ _ => h_)
    (by exact ⟨ws8, hR9, HS⟩)
    (fun x => [.pointer (some ⟨g, 0, none⟩), .pointer (some ⟨g1, 0, none⟩), .int .i64 x, .pointer (some ⟨g, 0, none⟩), .pointer (some ⟨g, 0, none⟩), .pointer (some ⟨g, 1, none⟩), .pointer none, .bool false, .bool false, .pointer (some ⟨g, 0, none⟩), .pointer (some ⟨g, 0, none⟩), .pointer (some ⟨g, 0, none⟩), .pointer (some ⟨q, 0, none⟩), .int .i64 (L.length : Int), .bool false, .bool false, .tuple #[.pointer (some ⟨g5, 0, none⟩), .int .i64 0], .pointer (some ⟨g, 0, none⟩), .pointer (some ⟨g, 0, none⟩), .pointer (some ⟨g, 0, none⟩), .pointer (some ⟨g, 2, none⟩), .int .i64 n, .tuple #[.pointer (some ⟨g5, 0, none⟩), .int .i64 0], .pointer (some ⟨g5, 0, none⟩), .int .i64 0, .pointer (some ⟨g, 0, none⟩), .pointer (some ⟨g, 1, none⟩), .pointer (some ⟨g, 0, none⟩), .pointer (some ⟨g, 0, none⟩), .pointer (some ⟨g, 0, none⟩), .pointer (some ⟨q, 0, none⟩), .func (.func 53) #[] #[.pointer (some ⟨b12, 0, none⟩)], .int .i64 x, undef, undef, undef, undef, undef, undef, undef, undef, undef]) ?_ ?_ ?_ ?_
  · intro l x W14 K_ hK_
    refine wp_region_litR (by kernel_rfl) (fun ⟨_, _, h_⟩ => (h_ : False)) ?_
    refine ql (.int .i64 x) (by kernel_rfl) (by kernel_rfl) ?_
    refine wpList_nil ?_
    refine x_then ?_
    exact kk_ (congrArg Fr (by kernel_rfl)) hK_
  · intro l pre x W14 hI_ hlt
    obtain ⟨ws_, hR, HS⟩ := hI_
    have HO := HS
    replace HS := HO.root
    refine wpIn_block ?_
    refine wp_region_litR (by kernel_rfl) (fun ⟨_, _, h_⟩ => (h_ : False)) ?_
    refine ql (.pointer (some ⟨g, 0, none⟩)) (by kernel_rfl) (R_load (p := ⟨g1, 0, none⟩) (by kernel_rfl) (by kernel_rfl) (by kernel_rfl) (HS.cell (i := 4) (j := 0) rfl rfl)) ?_
    refine ql (.pointer (some ⟨g, 0, none⟩)) (by kernel_rfl) (by kernel_rfl) ?_
    refine ql (.pointer (some ⟨g, 1, none⟩)) (by kernel_rfl) (by kernel_rfl) ?_
    refine ql (.pointer (some ⟨g5, 0, none⟩)) (by kernel_rfl) (R_load (p := ⟨g, 1, none⟩) (by kernel_rfl) (by kernel_rfl) (by kernel_rfl) (HS.cell (i := 3) (j := 1) rfl rfl)) ?_
    refine ql (.int .i64 x) (by kernel_rfl) (by kernel_rfl) ?_
    refine qc (f := 12) (args := #[.pointer (some ⟨g5, 0, none⟩), .int .i64 x]) (by kernel_rfl) (R_call #[.pointer (some ⟨g5, 0, none⟩), .int .i64 x] Tryd.func12 (by kernel_rfl) (by kernel_rfl) (by kernel_rfl)) ?_
    refine (dadd g5 c7 (some ⟨a6, 0, none⟩) ws_ n (adds n [] pre) x _ _ (St.focus (F := [blk g5 [.slice (some ⟨a6, 0, none⟩) ws_.length c7, .int .i64 n] 62, row (some ⟨a6, 0, none⟩) ws_.length c7 (ci .u64 ws_) 63 1]) HS) hR (by omega)).mono ?_
    rintro e W17 ⟨ws15, rfl, H_, hR16⟩
    refine ⟨_, rfl, ?_⟩
    replace HS : St W14 (owns [blk g5 [.slice (some ⟨a6, 0, none⟩) ws_.length c7, .int .i64 n] 62, row (some ⟨a6, 0, none⟩) ws_.length c7 (ci .u64 ws_) 63 1, blk b12 [.pointer (some ⟨q, 0, none⟩)] 50, blk g [.pointer (some ⟨q, 0, none⟩), .pointer (some ⟨g5, 0, none⟩), .int .i64 n] 53, blk g1 [.pointer (some ⟨g, 0, none⟩)] 24, blk q [.slice A L.length c] 74, row A L.length c (ci .i32 L) 21 1]) W17 [blk g5 [.slice (some ⟨a6, 0, none⟩) ws15.length c7, .int .i64 n] 62, row (some ⟨a6, 0, none⟩) ws15.length c7 (ci .u64 ws15) 63 1, blk b12 [.pointer (some ⟨q, 0, none⟩)] 50, blk g [.pointer (some ⟨q, 0, none⟩), .pointer (some ⟨g5, 0, none⟩), .int .i64 n] 53, blk g1 [.pointer (some ⟨g, 0, none⟩)] 24, blk q [.slice A L.length c] 74, row A L.length c (ci .i32 L) 21 1] := HS.join (F := [blk g5 [.slice (some ⟨a6, 0, none⟩) ws_.length c7, .int .i64 n] 62, row (some ⟨a6, 0, none⟩) ws_.length c7 (ci .u64 ws_) 63 1]) (G := [blk g5 [.slice (some ⟨a6, 0, none⟩) ws15.length c7, .int .i64 n] 62, row (some ⟨a6, 0, none⟩) ws15.length c7 (ci .u64 ws15) 63 1]) H_
    clear H_
    refine wpList_nil ?_
    refine x_inb ?_
    have HF := HO.unroot HS
    exact og_n (HS.keepsFrom HO (cel_cons blk_cel (cel_cons row_cel (cel_cons blk_cel (cel_cons blk_cel (cel_cons blk_cel (cel_cons blk_cel (cel_cons row_cel cel_nil))))))) _) (fun _ => ⟨HF.cell (i := 2) (j := 0) rfl rfl, HF.cell (i := 5) (j := 0) rfl rfl, Rd.row HF (i := 6) rfl⟩) ⟨ws15, (by rw [adds_snoc]; exact hR16), HF⟩
  · intro D xs W14 hD hS hI_ hdf
    have hS : L = xs := hS.symm
    subst hS
    obtain ⟨ws_, hR, HS⟩ := hI_
    replace HS := HS.addD (cel_cons blk_cel (cel_cons row_cel (cel_cons blk_cel (cel_cons blk_cel (cel_cons blk_cel (cel_cons blk_cel (cel_cons row_cel cel_nil))))))) (Nat.le_trans HSb.le hD) hdf
    refine x_inb ?_
    refine x_then ?_
    refine wp_region_lit ?_
    refine ql (.pointer (some ⟨g, 0, none⟩)) (by kernel_rfl) (R_load (p := ⟨g1, 0, none⟩) (by kernel_rfl) (by kernel_rfl) (by kernel_rfl) (HS.cell (i := 5) (j := 0) rfl rfl)) ?_
    refine ql (.pointer (some ⟨g, 0, none⟩)) (by kernel_rfl) (by kernel_rfl) ?_
    refine ql (.pointer (some ⟨g, 0, none⟩)) (by kernel_rfl) (by kernel_rfl) ?_
    refine ks (v := .pointer none) HS 4 rfl (0) [.pointer none] (by kernel_rfl) (by kernel_rfl) (by kernel_rfl) (by kernel_rfl) (by kernel_rfl) (one_ (by kernel_rfl)) (Nat.le_of_ble_eq_true rfl) rfl ?_
    intro W18 H_
    replace HS : St W M W18 [dfr D, blk g5 [.slice (some ⟨a6, 0, none⟩) ws_.length c7, .int .i64 n] 62, row (some ⟨a6, 0, none⟩) ws_.length c7 (ci .u64 ws_) 63 1, blk b12 [.pointer (some ⟨q, 0, none⟩)] 50, blk g [.pointer none, .pointer (some ⟨g5, 0, none⟩), .int .i64 n] 53, blk g1 [.pointer (some ⟨g, 0, none⟩)] 24, blk q [.slice A L.length c] 74, row A L.length c (ci .i32 L) 21 1] := H_
    clear H_
    refine wpList_nil ?_
    refine endD_ HS ?_
    clear HS
    intro W19 HS
    refine ⟨.tuple #[], by kernel_rfl, ?_⟩
    replace HS : St W M W19 [blk g [.pointer none, .pointer (some ⟨g5, 0, none⟩), .int .i64 n] 53, blk g5 [.slice (some ⟨a6, 0, none⟩) ws_.length c7, .int .i64 n] 62, row (some ⟨a6, 0, none⟩) ws_.length c7 (ci .u64 ws_) 63 1] := St.tail (F := [blk b12 [.pointer (some ⟨q, 0, none⟩)] 50, blk g1 [.pointer (some ⟨g, 0, none⟩)] 24, blk q [.slice A L.length c] 74, row A L.length c (ci .i32 L) 21 1]) (HS.perm (perm_ [2, 4, 5, 6, 3, 0, 1] (by kernel_rfl) rfl))
    have hR2 : Rep ws_ n L := by rw [adds_all hs.1 (fun x hx => ⟨(hs.2 x hx).1, hlim x hx⟩)] at hR; exact hR
    have hn9 := inr_len hs.1 (fun x hx => ⟨(hs.2 x hx).1, hlim x hx⟩) h0
    exact ⟨.mny g5 c7 (some ⟨a6, 0, none⟩) ws_, rfl, St.close1 HS, ⟨hR2, by omega⟩, by rw [decide_eq_true hl]; rfl⟩
  · intro D c pre W14 hD hSp hIx_ hdf
    exact hIx_.elim

theorem mwid_few (g q c : Nat) (A : Option Addr) (n : Int) (L : List Int) (W : World) (M : Nat → Prop) (HS : St W M W [blk g [.pointer (some ⟨q, 0, none⟩), .pointer none, .int .i64 n] 53, blk q [.slice A L.length c] 74, row A L.length c (ci .i32 L) 21 1]) (hs : S31 L) (hlim : ∀ x ∈ L, x < n) (h0 : 0 ≤ n) (hn : n ≤ 1048576) (hl2 : L.length ≤ 100000) : Calls Tryd.prog 32 #[.pointer (some ⟨g, 0, none⟩)] W fun e W' => ∃ x', e = .returned (.tuple #[]) ∧ St W M W' [many (mxE 53 74 21 62 63 g n L x')] ∧ x'.ok n L ∧ x'.b = decide (8 < L.length) := by
  by_cases hl : L.length ≤ 8
  · exact mwid_s g q c A n L W M HS hs hlim h0 hn hl
  · exact mwid_b g q c A n L W M HS hs hlim h0 hn (by omega) hl2

set_option maxRecDepth 100000 in
set_option maxHeartbeats 1000000 in
theorem madd_few (g q c : Nat) (A : Option Addr) (n : Int) (L : List Int) (i : Int) (W : World) (M : Nat → Prop) (HS : St W M W [blk g [.pointer (some ⟨q, 0, none⟩), .pointer none, .int .i64 n] 53, blk q [.slice A L.length c] 74, row A L.length c (ci .i32 L) 21 1]) (hs : S31 L) (hlim : ∀ x ∈ L, x < n) (hl : L.length ≤ 8) (h0 : 0 ≤ n) (hn : n ≤ 1048576) : Calls Tryd.prog 11 #[.pointer (some ⟨g, 0, none⟩), .int .i64 i] W fun e W' => ∃ x', e = .returned (.bool (addB n L i)) ∧ St W M W' [many (mxE 53 74 21 62 63 g n (addL n L i) x')] ∧ x'.ok n (addL n L i) ∧ x'.b = (false || decide (8 < (addL n L i).length)) := by
  refine calls_enter [.pointer (some ⟨g, 0, none⟩), .int .i64 i, undef, undef, undef, undef, undef, undef, undef, undef, undef, undef, undef, undef, undef, undef, undef, undef, undef, undef, undef, undef, undef, undef, undef, undef, undef, undef, undef, undef, undef, undef, undef, undef, undef, undef, undef, undef, undef, undef, undef, undef] Tryd.func11 rfl (by kernel_rfl) ?_
  refine wp_seq ?_
  refine wp_region_lit ?_
  refine ql (.bool false) (by kernel_rfl) (by kernel_rfl) ?_
  refine wpList_nil ?_
  refine x_then ?_
  refine wp_seq ?_
  refine wp_block ?_
  refine wp_seq ?_
  refine wp_region_lit ?_
  refine ql (.pointer (some ⟨g, 0, none⟩)) (by kernel_rfl) (by kernel_rfl) ?_
  refine ql (.bool false) (by kernel_rfl) (by kernel_rfl) ?_
  refine ql (.bool false) (by kernel_rfl) (by kernel_rfl) ?_
  refine ql (.int .i64 i) (by kernel_rfl) (by kernel_rfl) ?_
  by_cases hc1 : i < (0 : Int)
  · skip
    refine ql (.bool true) (by kernel_rfl) (R_bool (p := i < (0 : Int)) (by kernel_rfl) (hc1)) ?_
    refine ql (.bool true) (by kernel_rfl) (by kernel_rfl) ?_
    refine ql (.bool true) (by kernel_rfl) (by kernel_rfl) ?_
    refine qln (by kernel_rfl) ?_
    refine qln (by kernel_rfl) ?_
    refine qln (by kernel_rfl) ?_
    refine qln (by kernel_rfl) ?_
    refine qln (by kernel_rfl) ?_
    refine qln (by kernel_rfl) ?_
    refine ql (.bool true) (by kernel_rfl) (by kernel_rfl) ?_
    refine ql (.bool true) (by kernel_rfl) (by kernel_rfl) ?_
    refine wpList_nil ?_
    refine x_then ?_
    refine wp_cond_true (by kernel_rfl) ?_
    refine wp_seq ?_
    refine wp_region_lit ?_
    refine ql (.bool false) (by kernel_rfl) (by kernel_rfl) ?_
    refine wpList_nil ?_
    refine x_then ?_
    refine wp_ret ?_
    refine x_inbR ?_
    refine x_thenR ?_
    refine ret_ (.bool false) (by kernel_rfl) ?_
    have ha := addL_out (n := n) (i := i) (L := L) (by omega)
    exact ⟨.few q c A, by rw [ha.2], by rw [ha.1]; exact St.close1 HS, by rw [ha.1]; exact ⟨hs, hlim, hl⟩, by rw [ha.1, decide_eq_false (by omega)]; rfl⟩
  · skip
    refine ql (.bool false) (by kernel_rfl) (R_nbool (p := i < (0 : Int)) (by kernel_rfl) (hc1)) ?_
    refine ql (.bool false) (by kernel_rfl) (by kernel_rfl) ?_
    refine ql (.bool false) (by kernel_rfl) (by kernel_rfl) ?_
    refine ql (.int .i64 i) (by kernel_rfl) (by kernel_rfl) ?_
    refine ql (.pointer (some ⟨g, 0, none⟩)) (by kernel_rfl) (by kernel_rfl) ?_
    refine ql (.pointer (some ⟨g, 0, none⟩)) (by kernel_rfl) (by kernel_rfl) ?_
    refine ql (.pointer (some ⟨g, 2, none⟩)) (by kernel_rfl) (by kernel_rfl) ?_
    refine ql (.int .i64 n) (by kernel_rfl) (R_load (p := ⟨g, 2, none⟩) (by kernel_rfl) (by kernel_rfl) (by kernel_rfl) (HS.cell (i := 0) (j := 2) rfl rfl)) ?_
    by_cases hc2 : i ≥ n
    · skip
      refine ql (.bool true) (by kernel_rfl) (R_bool (p := i ≥ n) (by kernel_rfl) (hc2)) ?_
      refine ql (.bool true) (by kernel_rfl) (by kernel_rfl) ?_
      refine ql (.bool true) (by kernel_rfl) (by kernel_rfl) ?_
      refine wpList_nil ?_
      refine x_then ?_
      refine wp_cond_true (by kernel_rfl) ?_
      refine wp_seq ?_
      refine wp_region_lit ?_
      refine ql (.bool false) (by kernel_rfl) (by kernel_rfl) ?_
      refine wpList_nil ?_
      refine x_then ?_
      refine wp_ret ?_
      refine x_inbR ?_
      refine x_thenR ?_
      refine ret_ (.bool false) (by kernel_rfl) ?_
      have ha := addL_out (n := n) (i := i) (L := L) (by omega)
      exact ⟨.few q c A, by rw [ha.2], by rw [ha.1]; exact St.close1 HS, by rw [ha.1]; exact ⟨hs, hlim, hl⟩, by rw [ha.1, decide_eq_false (by omega)]; rfl⟩
    · skip
      refine ql (.bool false) (by kernel_rfl) (R_nbool (p := i ≥ n) (by kernel_rfl) (hc2)) ?_
      refine ql (.bool false) (by kernel_rfl) (by kernel_rfl) ?_
      refine ql (.bool false) (by kernel_rfl) (by kernel_rfl) ?_
      refine wpList_nil ?_
      refine x_then ?_
      refine wp_cond_false (by kernel_rfl) ?_
      refine wp_seq ?_
      refine wp_region_lit ?_
      refine ql (.pointer (some ⟨g, 0, none⟩)) (by kernel_rfl) (by kernel_rfl) ?_
      refine ql (.pointer (some ⟨g, 0, none⟩)) (by kernel_rfl) (by kernel_rfl) ?_
      refine ql (.pointer (some ⟨g, 1, none⟩)) (by kernel_rfl) (by kernel_rfl) ?_
      refine ql (.pointer none) (by kernel_rfl) (R_load (p := ⟨g, 1, none⟩) (by kernel_rfl) (by kernel_rfl) (by kernel_rfl) (HS.cell (i := 0) (j := 1) rfl rfl)) ?_
      refine ql (.bool false) (by kernel_rfl) (by kernel_rfl) ?_
      refine ql (.bool false) (by kernel_rfl) (by kernel_rfl) ?_
      refine wpList_nil ?_
      refine x_then ?_
      refine wp_cond_false (by kernel_rfl) ?_
      refine wp_skip ?_
      refine x_inb ?_
      refine x_then ?_
      refine wp_seq ?_
      refine wp_region_lit ?_
      refine ql (.pointer (some ⟨g, 0, none⟩)) (by kernel_rfl) (by kernel_rfl) ?_
      refine ql (.pointer (some ⟨g, 0, none⟩)) (by kernel_rfl) (by kernel_rfl) ?_
      refine ql (.pointer (some ⟨g, 0, none⟩)) (by kernel_rfl) (by kernel_rfl) ?_
      refine ql (.pointer (some ⟨q, 0, none⟩)) (by kernel_rfl) (R_load (p := ⟨g, 0, none⟩) (by kernel_rfl) (by kernel_rfl) (by kernel_rfl) (HS.cell (i := 0) (j := 0) rfl rfl)) ?_
      refine ql (.int .i64 i) (by kernel_rfl) (by kernel_rfl) ?_
      refine qc (f := 31) (args := #[.pointer (some ⟨q, 0, none⟩), .int .i64 i]) (by kernel_rfl) (R_call #[.pointer (some ⟨q, 0, none⟩), .int .i64 i] Tryd.func31 (by kernel_rfl) (by kernel_rfl) (by kernel_rfl)) ?_
      have hae := addL_31 (L := L) (by omega : 0 ≤ i) (by omega : i < n) (by omega)
      have hal := addL_len 2147483648 i L
      replace HS : St W M W [blk q [.slice A L.length c] 74, row A L.length c (ci .i32 L) 21 1, blk g [.pointer (some ⟨q, 0, none⟩), .pointer none, .int .i64 n] 53] := HS.perm (perm_ [1, 2, 0] (by kernel_rfl) rfl)
      refine (sadd q c A L i _ _ (St.focus (F := [blk q [.slice A L.length c] 74, row A L.length c (ci .i32 L) 21 1]) HS) hs (by omega)).mono ?_
      rintro e W6 ⟨A3, c4, rfl, H_⟩
      refine ⟨_, rfl, ?_⟩
      replace HS : St W M W6 [blk q [.slice A3 ((addL 2147483648 L i).length) c4] 74, row A3 ((addL 2147483648 L i).length) c4 (ci .i32 (addL 2147483648 L i)) 21 1, blk g [.pointer (some ⟨q, 0, none⟩), .pointer none, .int .i64 n] 53] := HS.join (F := [blk q [.slice A L.length c] 74, row A L.length c (ci .i32 L) 21 1]) (G := [blk q [.slice A3 ((addL 2147483648 L i).length) c4] 74, row A3 ((addL 2147483648 L i).length) c4 (ci .i32 (addL 2147483648 L i)) 21 1]) H_
      clear H_
      refine ql (.bool (addB 2147483648 L i)) (by kernel_rfl) (by kernel_rfl) ?_
      refine wpList_nil ?_
      refine x_then ?_
      refine wp_seq ?_
      refine wp_region_lit ?_
      refine ql (.pointer (some ⟨g, 0, none⟩)) (by kernel_rfl) (by kernel_rfl) ?_
      refine qc (f := 32) (args := #[.pointer (some ⟨g, 0, none⟩)]) (by kernel_rfl) (R_call #[.pointer (some ⟨g, 0, none⟩)] Tryd.func32 (by kernel_rfl) (by kernel_rfl) (by kernel_rfl)) ?_
      replace HS : St W M W6 [blk g [.pointer (some ⟨q, 0, none⟩), .pointer none, .int .i64 n] 53, blk q [.slice A3 ((addL 2147483648 L i).length) c4] 74, row A3 ((addL 2147483648 L i).length) c4 (ci .i32 (addL 2147483648 L i)) 21 1] := HS.perm (perm_ [2, 0, 1] (by kernel_rfl) rfl)
      refine (mwid_few g q c4 A3 n (addL 2147483648 L i) _ _ (St.focus (F := [blk g [.pointer (some ⟨q, 0, none⟩), .pointer none, .int .i64 n] 53, blk q [.slice A3 ((addL 2147483648 L i).length) c4] 74, row A3 ((addL 2147483648 L i).length) c4 (ci .i32 (addL 2147483648 L i)) 21 1]) HS) (hs.add) (by rw [hae.1]; exact lim_add hlim) h0 hn (by omega)).mono ?_
      rintro e W10 ⟨x7, rfl, H_, hok8, hb9⟩
      refine ⟨_, rfl, ?_⟩
      replace HS : St W M W10 [many (mxE 53 74 21 62 63 g n (addL 2147483648 L i) x7)] := HS.join (F := [blk g [.pointer (some ⟨q, 0, none⟩), .pointer none, .int .i64 n] 53, blk q [.slice A3 ((addL 2147483648 L i).length) c4] 74, row A3 ((addL 2147483648 L i).length) c4 (ci .i32 (addL 2147483648 L i)) 21 1]) (G := [many (mxE 53 74 21 62 63 g n (addL 2147483648 L i) x7)]) H_
      clear H_
      refine wpList_nil ?_
      refine x_then ?_
      refine wp_seq ?_
      refine wp_region_lit ?_
      refine ql (.bool (addB 2147483648 L i)) (by kernel_rfl) (by kernel_rfl) ?_
      refine ql (.bool (addB 2147483648 L i)) (by kernel_rfl) (by kernel_rfl) ?_
      refine wpList_nil ?_
      refine x_then ?_
      refine wp_ret ?_
      refine ret_ (.bool (addB 2147483648 L i)) (by kernel_rfl) ?_
      exact ⟨x7, by rw [← hae.2], by rw [← hae.1]; exact HS, by rw [← hae.1]; exact hok8, by rw [← hae.1]; exact hb9⟩

set_option maxRecDepth 100000 in
set_option maxHeartbeats 1000000 in
theorem madd_mny (g d c : Nat) (A : Option Addr) (ws : List Int) (n : Int) (L : List Int) (i : Int) (W : World) (M : Nat → Prop) (HS : St W M W [blk g [.pointer none, .pointer (some ⟨d, 0, none⟩), .int .i64 n] 53, blk d [.slice A ws.length c, .int .i64 n] 62, row A ws.length c (ci .u64 ws) 63 1]) (hR : Rep ws n L) (hnp : 0 < n) (hn : n ≤ 1048576) : Calls Tryd.prog 11 #[.pointer (some ⟨g, 0, none⟩), .int .i64 i] W fun e W' => ∃ x', e = .returned (.bool (addB n L i)) ∧ St W M W' [many (mxE 53 74 21 62 63 g n (addL n L i) x')] ∧ x'.ok n (addL n L i) ∧ x'.b = (true || decide (8 < (addL n L i).length)) := by
  refine calls_enter [.pointer (some ⟨g, 0, none⟩), .int .i64 i, undef, undef, undef, undef, undef, undef, undef, undef, undef, undef, undef, undef, undef, undef, undef, undef, undef, undef, undef, undef, undef, undef, undef, undef, undef, undef, undef, undef, undef, undef, undef, undef, undef, undef, undef, undef, undef, undef, undef, undef] Tryd.func11 rfl (by kernel_rfl) ?_
  refine wp_seq ?_
  refine wp_region_lit ?_
  refine ql (.bool false) (by kernel_rfl) (by kernel_rfl) ?_
  refine wpList_nil ?_
  refine x_then ?_
  refine wp_seq ?_
  refine wp_block ?_
  refine wp_seq ?_
  refine wp_region_lit ?_
  refine ql (.pointer (some ⟨g, 0, none⟩)) (by kernel_rfl) (by kernel_rfl) ?_
  refine ql (.bool false) (by kernel_rfl) (by kernel_rfl) ?_
  refine ql (.bool false) (by kernel_rfl) (by kernel_rfl) ?_
  refine ql (.int .i64 i) (by kernel_rfl) (by kernel_rfl) ?_
  by_cases hc1 : i < (0 : Int)
  · skip
    refine ql (.bool true) (by kernel_rfl) (R_bool (p := i < (0 : Int)) (by kernel_rfl) (hc1)) ?_
    refine ql (.bool true) (by kernel_rfl) (by kernel_rfl) ?_
    refine ql (.bool true) (by kernel_rfl) (by kernel_rfl) ?_
    refine qln (by kernel_rfl) ?_
    refine qln (by kernel_rfl) ?_
    refine qln (by kernel_rfl) ?_
    refine qln (by kernel_rfl) ?_
    refine qln (by kernel_rfl) ?_
    refine qln (by kernel_rfl) ?_
    refine ql (.bool true) (by kernel_rfl) (by kernel_rfl) ?_
    refine ql (.bool true) (by kernel_rfl) (by kernel_rfl) ?_
    refine wpList_nil ?_
    refine x_then ?_
    refine wp_cond_true (by kernel_rfl) ?_
    refine wp_seq ?_
    refine wp_region_lit ?_
    refine ql (.bool false) (by kernel_rfl) (by kernel_rfl) ?_
    refine wpList_nil ?_
    refine x_then ?_
    refine wp_ret ?_
    refine x_inbR ?_
    refine x_thenR ?_
    refine ret_ (.bool false) (by kernel_rfl) ?_
    have ha := addL_out (n := n) (i := i) (L := L) (by omega)
    exact ⟨.mny d c A ws, by rw [ha.2], by rw [ha.1]; exact St.close1 HS, by rw [ha.1]; exact ⟨hR, hnp⟩, rfl⟩
  · skip
    refine ql (.bool false) (by kernel_rfl) (R_nbool (p := i < (0 : Int)) (by kernel_rfl) (hc1)) ?_
    refine ql (.bool false) (by kernel_rfl) (by kernel_rfl) ?_
    refine ql (.bool false) (by kernel_rfl) (by kernel_rfl) ?_
    refine ql (.int .i64 i) (by kernel_rfl) (by kernel_rfl) ?_
    refine ql (.pointer (some ⟨g, 0, none⟩)) (by kernel_rfl) (by kernel_rfl) ?_
    refine ql (.pointer (some ⟨g, 0, none⟩)) (by kernel_rfl) (by kernel_rfl) ?_
    refine ql (.pointer (some ⟨g, 2, none⟩)) (by kernel_rfl) (by kernel_rfl) ?_
    refine ql (.int .i64 n) (by kernel_rfl) (R_load (p := ⟨g, 2, none⟩) (by kernel_rfl) (by kernel_rfl) (by kernel_rfl) (HS.cell (i := 0) (j := 2) rfl rfl)) ?_
    by_cases hc2 : i ≥ n
    · skip
      refine ql (.bool true) (by kernel_rfl) (R_bool (p := i ≥ n) (by kernel_rfl) (hc2)) ?_
      refine ql (.bool true) (by kernel_rfl) (by kernel_rfl) ?_
      refine ql (.bool true) (by kernel_rfl) (by kernel_rfl) ?_
      refine wpList_nil ?_
      refine x_then ?_
      refine wp_cond_true (by kernel_rfl) ?_
      refine wp_seq ?_
      refine wp_region_lit ?_
      refine ql (.bool false) (by kernel_rfl) (by kernel_rfl) ?_
      refine wpList_nil ?_
      refine x_then ?_
      refine wp_ret ?_
      refine x_inbR ?_
      refine x_thenR ?_
      refine ret_ (.bool false) (by kernel_rfl) ?_
      have ha := addL_out (n := n) (i := i) (L := L) (by omega)
      exact ⟨.mny d c A ws, by rw [ha.2], by rw [ha.1]; exact St.close1 HS, by rw [ha.1]; exact ⟨hR, hnp⟩, rfl⟩
    · skip
      refine ql (.bool false) (by kernel_rfl) (R_nbool (p := i ≥ n) (by kernel_rfl) (hc2)) ?_
      refine ql (.bool false) (by kernel_rfl) (by kernel_rfl) ?_
      refine ql (.bool false) (by kernel_rfl) (by kernel_rfl) ?_
      refine wpList_nil ?_
      refine x_then ?_
      refine wp_cond_false (by kernel_rfl) ?_
      refine wp_seq ?_
      refine wp_region_lit ?_
      refine ql (.pointer (some ⟨g, 0, none⟩)) (by kernel_rfl) (by kernel_rfl) ?_
      refine ql (.pointer (some ⟨g, 0, none⟩)) (by kernel_rfl) (by kernel_rfl) ?_
      refine ql (.pointer (some ⟨g, 1, none⟩)) (by kernel_rfl) (by kernel_rfl) ?_
      refine ql (.pointer (some ⟨d, 0, none⟩)) (by kernel_rfl) (R_load (p := ⟨g, 1, none⟩) (by kernel_rfl) (by kernel_rfl) (by kernel_rfl) (HS.cell (i := 0) (j := 1) rfl rfl)) ?_
      refine ql (.bool true) (by kernel_rfl) (by kernel_rfl) ?_
      refine ql (.bool true) (by kernel_rfl) (by kernel_rfl) ?_
      refine wpList_nil ?_
      refine x_then ?_
      refine wp_cond_true (by kernel_rfl) ?_
      refine wp_seq ?_
      refine wp_region_lit ?_
      refine ql (.pointer (some ⟨g, 0, none⟩)) (by kernel_rfl) (by kernel_rfl) ?_
      refine ql (.pointer (some ⟨g, 0, none⟩)) (by kernel_rfl) (by kernel_rfl) ?_
      refine ql (.pointer (some ⟨g, 1, none⟩)) (by kernel_rfl) (by kernel_rfl) ?_
      refine ql (.pointer (some ⟨d, 0, none⟩)) (by kernel_rfl) (R_load (p := ⟨g, 1, none⟩) (by kernel_rfl) (by kernel_rfl) (by kernel_rfl) (HS.cell (i := 0) (j := 1) rfl rfl)) ?_
      refine ql (.int .i64 i) (by kernel_rfl) (by kernel_rfl) ?_
      refine qc (f := 12) (args := #[.pointer (some ⟨d, 0, none⟩), .int .i64 i]) (by kernel_rfl) (R_call #[.pointer (some ⟨d, 0, none⟩), .int .i64 i] Tryd.func12 (by kernel_rfl) (by kernel_rfl) (by kernel_rfl)) ?_
      replace HS : St W M W [blk d [.slice A ws.length c, .int .i64 n] 62, row A ws.length c (ci .u64 ws) 63 1, blk g [.pointer none, .pointer (some ⟨d, 0, none⟩), .int .i64 n] 53] := HS.perm (perm_ [1, 2, 0] (by kernel_rfl) rfl)
      refine (dadd d c A ws n L i _ _ (St.focus (F := [blk d [.slice A ws.length c, .int .i64 n] 62, row A ws.length c (ci .u64 ws) 63 1]) HS) hR hn).mono ?_
      rintro e W5 ⟨ws3, rfl, H_, hR4⟩
      refine ⟨_, rfl, ?_⟩
      replace HS : St W M W5 [blk d [.slice A ws3.length c, .int .i64 n] 62, row A ws3.length c (ci .u64 ws3) 63 1, blk g [.pointer none, .pointer (some ⟨d, 0, none⟩), .int .i64 n] 53] := HS.join (F := [blk d [.slice A ws.length c, .int .i64 n] 62, row A ws.length c (ci .u64 ws) 63 1]) (G := [blk d [.slice A ws3.length c, .int .i64 n] 62, row A ws3.length c (ci .u64 ws3) 63 1]) H_
      clear H_
      refine ql (.bool (addB n L i)) (by kernel_rfl) (by kernel_rfl) ?_
      refine wpList_nil ?_
      refine x_then ?_
      refine wp_ret ?_
      refine x_inbR ?_
      refine x_thenR ?_
      refine ret_ (.bool (addB n L i)) (by kernel_rfl) ?_
      replace HS : St W M W5 [blk g [.pointer none, .pointer (some ⟨d, 0, none⟩), .int .i64 n] 53, blk d [.slice A ws3.length c, .int .i64 n] 62, row A ws3.length c (ci .u64 ws3) 63 1] := St.tail (F := []) (HS.perm (perm_ [2, 0, 1] (by kernel_rfl) rfl))
      exact ⟨.mny d c A ws3, rfl, St.close1 HS, ⟨hR4, hnp⟩, rfl⟩

theorem madd (g : Nat) (n : Int) (L : List Int) (x : MxF) (i : Int) (W : World) (M : Nat → Prop) (HS : St W M W [many (mxE 53 74 21 62 63 g n L x)]) (hx : x.ok n L) (h0 : 0 ≤ n) (hn : n ≤ 1048576) : Calls Tryd.prog 11 #[.pointer (some ⟨g, 0, none⟩), .int .i64 i] W fun e W' => ∃ x', e = .returned (.bool (addB n L i)) ∧ St W M W' [many (mxE 53 74 21 62 63 g n (addL n L i) x')] ∧ x'.ok n (addL n L i) ∧ x'.b = (x.b || decide (8 < (addL n L i).length)) := by
  rcases x with ⟨q, c, A⟩ | ⟨d, c, A, ws⟩
  · exact madd_few g q c A n L i W M HS.open1 hx.1 hx.2.1 hx.2.2 h0 hn
  · exact madd_mny g d c A ws n L i W M HS.open1 hx.1 hx.2 hn

set_option maxRecDepth 100000 in
set_option maxHeartbeats 1000000 in
theorem mfill (g : Nat) (n : Int) (L : List Int) (x : MxF) (a b : Int) (W : World) (M : Nat → Prop) (HS : St W M W [many (mxE 53 74 21 62 63 g n L x)]) (hx : x.ok n L) (h0 : 0 ≤ n) (hn : n ≤ 1048576) : Calls Tryd.prog 17 #[.pointer (some ⟨g, 0, none⟩), .int .i64 a, .int .i64 b] W fun e W' => ∃ x', e = .returned (.tuple #[]) ∧ St W M W' [many (mxE 53 74 21 62 63 g n (filL n L a b) x')] ∧ x'.ok n (filL n L a b) ∧ x'.b = (x.b || decide (8 < (filL n L a b).length)) := by
  refine calls_enter [.pointer (some ⟨g, 0, none⟩), .int .i64 a, .int .i64 b, undef, undef, undef, undef, undef, undef, undef, undef, undef, undef, undef, undef, undef, undef, undef, undef, undef] Tryd.func17 rfl (by kernel_rfl) ?_
  refine wp_seq ?_
  refine wp_region_lit ?_
  refine ql (.int .i64 a) (by kernel_rfl) (by kernel_rfl) ?_
  refine ql (.int .i64 (max a (0 : Int))) (by kernel_rfl) (R_max (i := a) (j := 0) (by kernel_rfl) (by kernel_rfl)) ?_
  refine ql (.int .i64 (max a (0 : Int))) (by kernel_rfl) (by kernel_rfl) ?_
  refine wpList_nil ?_
  refine x_then ?_
  refine wp_block ?_
  refine wp_loop_ghost (fun kq a' w' => ∃ (J1 : Nat → Value) (i : Int) (L1 : List Int) (x1 : MxF) , a' = Fr [.pointer (some ⟨g, 0, none⟩), .int .i64 a, .int .i64 b, undef, undef, undef, .int .i64 i, .int .i64 a, .int .i64 (max a (0 : Int)), (J1 9), (J1 10), (J1 11), (J1 12), (J1 13), (J1 14), (J1 15), (J1 16), (J1 17), (J1 18), (J1 19)] ∧ kq = ((max (min b n) (max a 0) - i).toNat) ∧ (max a 0 ≤ i) ∧ (i ≤ max (min b n) (max a 0)) ∧ (FlP n a L L1 i) ∧ (x1.ok n L1) ∧ (x1.b = (x.b || decide (8 < L1.length))) ∧ St W M w' [many (mxE 53 74 21 62 63 g n L1 x1)]) ((max (min b n) (max a 0) - (max a 0)).toNat) ⟨(fun k_ : Nat => List.getD [.pointer (some ⟨g, 0, none⟩), .int .i64 a, .int .i64 b, undef, undef, undef, .int .i64 (max a (0 : Int)), .int .i64 a, .int .i64 (max a (0 : Int)), undef, undef, undef, undef, undef, undef, undef, undef, undef, undef, undef] k_ undef), max a 0, L, x, congrArg Fr (by kernel_rfl), rfl, by omega, by omega, flP_start n a L, hx, b_or hx, HS⟩ ?_
  clear HS
  intro kq2 a' W3 hrel
  obtain ⟨J1, i, L1, x1, rfl, hk, i0, i1, hF, hok, hb, HS⟩ := hrel
  refine wp_seq ?_
  refine wp_seq ?_
  refine wp_region_lit ?_
  refine ql (.int .i64 i) (by kernel_rfl) (by kernel_rfl) ?_
  refine ql (.int .i64 b) (by kernel_rfl) (by kernel_rfl) ?_
  refine ql (.pointer (some ⟨g, 0, none⟩)) (by kernel_rfl) (by kernel_rfl) ?_
  refine qc (f := 21) (args := #[.pointer (some ⟨g, 0, none⟩)]) (by kernel_rfl) (R_call #[.pointer (some ⟨g, 0, none⟩)] Tryd.func21 (by kernel_rfl) (by kernel_rfl) (by kernel_rfl)) ?_
  refine (msize g n _ (mx_n (HS.hasP (i := 0) rfl))).mono ?_
  rintro e W4 ⟨rfl, H_⟩
  refine ⟨_, rfl, ?_⟩
  replace HS : St W M W4 [many (mxE 53 74 21 62 63 g n L1 x1)] := HS.join (F := []) (G := []) H_
  clear H_
  refine ql (.int .i64 (min b n)) (by kernel_rfl) (R_min (i := b) (j := n) (by kernel_rfl) (by kernel_rfl)) ?_
  by_cases hc5 : i < (min b n)
  · skip
    refine ql (.bool true) (by kernel_rfl) (R_bool (p := i < (min b n)) (by kernel_rfl) (hc5)) ?_
    refine wpList_nil ?_
    refine x_then ?_
    refine wp_cond_true (by kernel_rfl) ?_
    refine wp_skip ?_
    refine x_then ?_
    refine wp_seq ?_
    refine wp_block ?_
    refine wp_region_lit ?_
    refine ql (.pointer (some ⟨g, 0, none⟩)) (by kernel_rfl) (by kernel_rfl) ?_
    refine ql (.int .i64 i) (by kernel_rfl) (by kernel_rfl) ?_
    refine qc (f := 11) (args := #[.pointer (some ⟨g, 0, none⟩), .int .i64 i]) (by kernel_rfl) (R_call #[.pointer (some ⟨g, 0, none⟩), .int .i64 i] Tryd.func11 (by kernel_rfl) (by kernel_rfl) (by kernel_rfl)) ?_
    refine (madd g n L1 x1 i _ _ (St.focus (F := [many (mxE 53 74 21 62 63 g n L1 x1)]) HS) hok (by omega) (by omega)).mono ?_
    rintro e W9 ⟨x6, rfl, H_, hok7, hb8⟩
    refine ⟨_, rfl, ?_⟩
    replace HS : St W M W9 [many (mxE 53 74 21 62 63 g n (addL n L1 i) x6)] := HS.join (F := [many (mxE 53 74 21 62 63 g n L1 x1)]) (G := [many (mxE 53 74 21 62 63 g n (addL n L1 i) x6)]) H_
    clear H_
    refine wpList_nil ?_
    refine x_inb ?_
    refine x_then ?_
    refine wp_region_lit ?_
    refine ql (.int .i64 i) (by kernel_rfl) (by kernel_rfl) ?_
    refine ql (.int .i64 (i + 1)) (by kernel_rfl) (R_int (by kernel_rfl) (w64 (by omega))) ?_
    refine ql (.int .i64 (i + 1)) (by kernel_rfl) (by kernel_rfl) ?_
    refine wpList_nil ?_
    refine x_then ?_
    exact ⟨(max (min b n) (max a 0) - (i + 1)).toNat, by omega, (fun k_ : Nat => List.getD [.pointer (some ⟨g, 0, none⟩), .int .i64 a, .int .i64 b, undef, undef, undef, .int .i64 (i + 1), .int .i64 a, .int .i64 (max a (0 : Int)), .int .i64 i, .int .i64 b, .pointer (some ⟨g, 0, none⟩), .int .i64 n, .int .i64 (min b n), .bool true, .int .i64 i, .int .i64 (i + 1), .pointer (some ⟨g, 0, none⟩), .int .i64 i, .bool (addB n L1 i)] k_ undef), i + 1, (addL n L1 i), x6, congrArg Fr (by kernel_rfl), rfl, by omega, by omega, flP_step hF (by omega), hok7, b_step hb hb8 (addL_ge n i L1), HS⟩
  · skip
    refine ql (.bool false) (by kernel_rfl) (R_nbool (p := i < (min b n)) (by kernel_rfl) (hc5)) ?_
    refine wpList_nil ?_
    refine x_then ?_
    refine wp_cond_false (by kernel_rfl) ?_
    refine wp_exit ?_
    refine x_thenE ?_
    refine x_thenE ?_
    refine x_hit ?_
    refine end_ (.tuple #[]) (by kernel_rfl) ?_
    have hq := flP_end hF i0 (b := b) (by omega) i1
    subst hq
    exact ⟨x1, rfl, HS, hok, hb⟩

set_option maxRecDepth 100000 in
set_option maxHeartbeats 1000000 in
theorem mawake (W : World) : Calls Tryd.prog 5 #[] W fun e W' => e = .returned (.bool true) ∧ St W (owns []) W' [] := by
  have HS : St W (owns []) W [] := St.start W _
  refine calls_enter [undef, undef, undef, undef, undef, undef, undef, undef, undef, undef, undef, undef, undef, undef, undef, undef, undef, undef, undef, undef, undef, undef, undef, undef, undef, undef, undef, undef, undef, undef, undef, undef, undef, undef, undef, undef, undef, undef] Tryd.func5 rfl (by kernel_rfl) ?_
  refine wp_seq ?_
  refine wp_region_lit ?_
  refine ql (.bool false) (by kernel_rfl) (by kernel_rfl) ?_
  refine wpList_nil ?_
  refine x_then ?_
  refine wp_seq ?_
  refine wp_region_lit ?_
  refine qc (f := 6) (args := #[.int .i64 100]) (by kernel_rfl) (R_call #[.int .i64 100] Tryd.func6 (by kernel_rfl) (by kernel_rfl) (by kernel_rfl)) ?_
  refine (mnew_ok 100 _ (by omega) (by omega)).mono ?_
  rintro e W5 ⟨g1, x2, rfl, H_, hok3, hb4⟩
  refine ⟨_, rfl, ?_⟩
  replace HS : St W (owns []) W5 [many (mxE 53 74 21 62 63 g1 100 ([]) x2)] := HS.join (F := []) (G := [many (mxE 53 74 21 62 63 g1 100 ([]) x2)]) H_
  clear H_
  refine ql (.tuple #[.pointer (some ⟨g1, 0, none⟩), .int .i64 0]) (by kernel_rfl) (by kernel_rfl) ?_
  refine ql (.pointer (some ⟨g1, 0, none⟩)) (by kernel_rfl) (by kernel_rfl) ?_
  refine ql (.int .i64 0) (by kernel_rfl) (by kernel_rfl) ?_
  refine ql (.pointer (some ⟨g1, 0, none⟩)) (by kernel_rfl) (by kernel_rfl) ?_
  refine ql (.int .i64 0) (by kernel_rfl) (by kernel_rfl) ?_
  refine wpList_nil ?_
  refine x_then ?_
  refine wp_seq ?_
  refine wp_region_lit ?_
  refine ql (.pointer (some ⟨g1, 0, none⟩)) (by kernel_rfl) (by kernel_rfl) ?_
  refine qc (f := 17) (args := #[.pointer (some ⟨g1, 0, none⟩), .int .i64 0, .int .i64 8]) (by kernel_rfl) (R_call #[.pointer (some ⟨g1, 0, none⟩), .int .i64 0, .int .i64 8] Tryd.func17 (by kernel_rfl) (by kernel_rfl) (by kernel_rfl)) ?_
  have hfl9 : (filL 100 ([]) 0 8) = [0, 1, 2, 3, 4, 5, 6, 7] := by decide
  refine (mfill g1 100 ([]) x2 0 8 _ _ (St.focus (F := [many (mxE 53 74 21 62 63 g1 100 ([]) x2)]) HS) hok3 (by omega) (by omega)).mono ?_
  rintro e W10 ⟨x6, rfl, H_, hok7, hb8⟩
  rw [hfl9] at H_ hok7 hb8
  refine ⟨_, rfl, ?_⟩
  replace HS : St W (owns []) W10 [many (mxE 53 74 21 62 63 g1 100 ([0, 1, 2, 3, 4, 5, 6, 7]) x6)] := HS.join (F := [many (mxE 53 74 21 62 63 g1 100 ([]) x2)]) (G := [many (mxE 53 74 21 62 63 g1 100 ([0, 1, 2, 3, 4, 5, 6, 7]) x6)]) H_
  clear H_
  refine wpList_nil ?_
  refine x_then ?_
  refine wp_seq ?_
  refine wp_region_lit ?_
  refine ql (.pointer (some ⟨g1, 0, none⟩)) (by kernel_rfl) (by kernel_rfl) ?_
  refine qc (f := 23) (args := #[.pointer (some ⟨g1, 0, none⟩)]) (by kernel_rfl) (R_call #[.pointer (some ⟨g1, 0, none⟩)] Tryd.func23 (by kernel_rfl) (by kernel_rfl) (by kernel_rfl)) ?_
  have hbf : x6.b = false := by rw [hb8, hb4]; rfl
  refine (mdense g1 100 [0, 1, 2, 3, 4, 5, 6, 7] x6 _ (HS.hasP (i := 0) rfl) hok7 (by omega) (by omega)).mono ?_
  rintro e W11 ⟨rfl, H_⟩
  rw [hbf]
  refine ⟨_, rfl, ?_⟩
  replace HS : St W (owns []) W11 [many (mxE 53 74 21 62 63 g1 100 ([0, 1, 2, 3, 4, 5, 6, 7]) x6)] := HS.join (F := []) (G := []) H_
  clear H_
  refine ql (.bool false) (by kernel_rfl) (by kernel_rfl) ?_
  refine wpList_nil ?_
  refine x_then ?_
  refine wp_seq ?_
  refine wp_region_lit ?_
  refine ql (.pointer (some ⟨g1, 0, none⟩)) (by kernel_rfl) (by kernel_rfl) ?_
  refine qc (f := 11) (args := #[.pointer (some ⟨g1, 0, none⟩), .int .i64 8]) (by kernel_rfl) (R_call #[.pointer (some ⟨g1, 0, none⟩), .int .i64 8] Tryd.func11 (by kernel_rfl) (by kernel_rfl) (by kernel_rfl)) ?_
  have ha8 : addL 100 [0, 1, 2, 3, 4, 5, 6, 7] 8 = [0, 1, 2, 3, 4, 5, 6, 7, 8] := by decide
  have hb8 : addB 100 [0, 1, 2, 3, 4, 5, 6, 7] 8 = true := by decide
  refine (madd g1 100 [0, 1, 2, 3, 4, 5, 6, 7] x6 8 _ _ (St.focus (F := [many (mxE 53 74 21 62 63 g1 100 ([0, 1, 2, 3, 4, 5, 6, 7]) x6)]) HS) hok7 (by omega) (by omega)).mono ?_
  rintro e W15 ⟨x12, rfl, H_, hok13, hb14⟩
  rw [ha8] at H_ hok13 hb14
  rw [hb8]
  refine ⟨_, rfl, ?_⟩
  replace HS : St W (owns []) W15 [many (mxE 53 74 21 62 63 g1 100 ([0, 1, 2, 3, 4, 5, 6, 7, 8]) x12)] := HS.join (F := [many (mxE 53 74 21 62 63 g1 100 ([0, 1, 2, 3, 4, 5, 6, 7]) x6)]) (G := [many (mxE 53 74 21 62 63 g1 100 ([0, 1, 2, 3, 4, 5, 6, 7, 8]) x12)]) H_
  clear H_
  refine ql (.bool true) (by kernel_rfl) (by kernel_rfl) ?_
  refine wpList_nil ?_
  refine x_then ?_
  refine wp_seq ?_
  refine wp_region_lit ?_
  refine ql (.int .i64 0) (by kernel_rfl) (by kernel_rfl) ?_
  refine ql (.bool true) (by kernel_rfl) (R_beq (b := ((0 : Int) == 0)) (by kernel_rfl) (by decide)) ?_
  refine ql (.bool true) (by kernel_rfl) (by kernel_rfl) ?_
  refine ql (.bool false) (by kernel_rfl) (by kernel_rfl) ?_
  refine ql (.bool true) (by kernel_rfl) (by kernel_rfl) ?_
  refine ql (.bool true) (by kernel_rfl) (by kernel_rfl) ?_
  refine ql (.bool true) (by kernel_rfl) (by kernel_rfl) ?_
  refine ql (.bool true) (by kernel_rfl) (by kernel_rfl) ?_
  refine ql (.bool true) (by kernel_rfl) (by kernel_rfl) ?_
  refine ql (.bool true) (by kernel_rfl) (by kernel_rfl) ?_
  refine ql (.pointer (some ⟨g1, 0, none⟩)) (by kernel_rfl) (by kernel_rfl) ?_
  refine qc (f := 23) (args := #[.pointer (some ⟨g1, 0, none⟩)]) (by kernel_rfl) (R_call #[.pointer (some ⟨g1, 0, none⟩)] Tryd.func23 (by kernel_rfl) (by kernel_rfl) (by kernel_rfl)) ?_
  have hbt : x12.b = true := by rw [hb14, hbf]; rfl
  refine (mdense g1 100 [0, 1, 2, 3, 4, 5, 6, 7, 8] x12 _ (HS.hasP (i := 0) rfl) hok13 (by omega) (by omega)).mono ?_
  rintro e W16 ⟨rfl, H_⟩
  rw [hbt]
  refine ⟨_, rfl, ?_⟩
  replace HS : St W (owns []) W16 [many (mxE 53 74 21 62 63 g1 100 ([0, 1, 2, 3, 4, 5, 6, 7, 8]) x12)] := HS.join (F := []) (G := []) H_
  clear H_
  refine ql (.bool true) (by kernel_rfl) (by kernel_rfl) ?_
  refine ql (.bool true) (by kernel_rfl) (by kernel_rfl) ?_
  refine ql (.pointer (some ⟨g1, 0, none⟩)) (by kernel_rfl) (by kernel_rfl) ?_
  refine qc (f := 24) (args := #[.pointer (some ⟨g1, 0, none⟩)]) (by kernel_rfl) (R_call #[.pointer (some ⟨g1, 0, none⟩)] Tryd.func24 (by kernel_rfl) (by kernel_rfl) (by kernel_rfl)) ?_
  have hwd : wrd x12 100 [0, 1, 2, 3, 4, 5, 6, 7, 8] = 2 := by unfold wrd; rw [hbt]; rfl
  refine (mwords g1 100 [0, 1, 2, 3, 4, 5, 6, 7, 8] x12 _ (HS.hasP (i := 0) rfl) hok13 (by omega) (by omega)).mono ?_
  rintro e W17 ⟨rfl, H_⟩
  rw [hwd]
  refine ⟨_, rfl, ?_⟩
  replace HS : St W (owns []) W17 [many (mxE 53 74 21 62 63 g1 100 ([0, 1, 2, 3, 4, 5, 6, 7, 8]) x12)] := HS.join (F := []) (G := []) H_
  clear H_
  refine ql (.bool true) (by kernel_rfl) (R_beq (b := ((2 : Int) == 2)) (by kernel_rfl) (by decide)) ?_
  refine ql (.bool true) (by kernel_rfl) (by kernel_rfl) ?_
  refine ql (.bool true) (by kernel_rfl) (by kernel_rfl) ?_
  refine ql (.pointer (some ⟨g1, 0, none⟩)) (by kernel_rfl) (by kernel_rfl) ?_
  refine qc (f := 13) (args := #[.pointer (some ⟨g1, 0, none⟩)]) (by kernel_rfl) (R_call #[.pointer (some ⟨g1, 0, none⟩)] Tryd.func13 (by kernel_rfl) (by kernel_rfl) (by kernel_rfl)) ?_
  refine (mlen g1 100 [0, 1, 2, 3, 4, 5, 6, 7, 8] x12 _ (HS.hasP (i := 0) rfl) hok13 (by omega) (by omega)).mono ?_
  rintro e W18 ⟨rfl, H_⟩
  rw [show (([0, 1, 2, 3, 4, 5, 6, 7, 8] : List Int).length : Int) = 9 from rfl]
  refine ⟨_, rfl, ?_⟩
  replace HS : St W (owns []) W18 [many (mxE 53 74 21 62 63 g1 100 ([0, 1, 2, 3, 4, 5, 6, 7, 8]) x12)] := HS.join (F := []) (G := []) H_
  clear H_
  refine ql (.bool true) (by kernel_rfl) (R_beq (b := ((9 : Int) == 9)) (by kernel_rfl) (by decide)) ?_
  refine ql (.bool true) (by kernel_rfl) (by kernel_rfl) ?_
  refine ql (.bool true) (by kernel_rfl) (by kernel_rfl) ?_
  refine wpList_nil ?_
  refine x_then ?_
  refine wp_ret ?_
  refine ret_ (.bool true) (by kernel_rfl) ?_
  replace HS := HS.drop1
  exact ⟨rfl, HS⟩

end Go.Proofs.YtdiodmdohkjafaaDoor
