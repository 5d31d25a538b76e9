/- For every size and list of cells, what is closed in a matrix of chapter 6 is closed for good, and a nil matrix has nothing: MatrixCloses returns true, and its arguments read as they did. This text: the walks through the functions that the statement reaches. No condition but those in the statement. -/
import Derived.WalkKit
import Derived.StillTailTactics
import Derived.Deep.LoopGhost
import Derived.KernelRfl
import Derived.Deep.OwnRows
import Derived.Laws.OwnMore
import Derived.Laws.MakeOwn
import Derived.Maps.AppendAt
import Derived.OrdersHeld
import Derived.Test.YtgoapobflajliaaDoorProg
import Derived.Test.YtgoapobflajliaaDoorHa
import Derived.Test.YtgoapobflajliaaDoorHb
namespace Go.Proofs.YtgoapobflajliaaDoor
open Go Go.RowKit Go.Shelf Go.Proofs.YtgoapobflajliaaDoor.Hp
attribute [local irreducible] wpStill wpList Code.wp TA
set_option linter.unusedVariables false
set_option linter.unusedSimpArgs false

set_option maxRecDepth 100000 in
set_option maxHeartbeats 1000000 in
theorem lMatrixCloses (n : Int) (Al : Option Addr) (cl : Nat) (l : List (Int × Int)) (W : World) (hra : Rd W Al (cf actD l)) (hT : TabAt64 W) : Calls Tryd.prog 6 #[.int .i64 n, .slice Al l.length cl] W fun e W' => e = .returned (.bool true) ∧ St W (owns []) W' [] := by
  have HS : St W (owns []) W [] := St.start W _
  refine calls_enter ((.int .i64 n) :: (.slice Al l.length cl) :: undef :: undef :: undef :: undef :: undef :: undef :: undef :: undef :: undef :: undef :: undef :: undef :: undef :: undef :: undef :: undef :: undef :: undef :: undef :: undef :: undef :: undef :: undef :: undef :: undef :: undef :: undef :: undef :: undef :: undef :: undef :: undef :: undef :: undef :: undef :: undef :: undef :: undef :: undef :: undef :: undef :: undef :: undef :: undef :: undef :: undef :: undef :: undef :: undef :: undef :: undef :: undef :: undef :: undef :: undef :: undef :: undef :: undef :: undef :: undef :: undef :: undef :: undef :: undef :: undef :: undef :: undef :: undef :: undef :: undef :: undef :: undef :: undef :: undef :: undef :: undef :: undef :: undef :: undef :: undef :: undef :: undef :: undef :: undef :: undef :: undef :: undef :: undef :: undef :: undef :: undef :: undef :: undef :: undef :: undef :: undef :: undef :: undef :: undef :: undef :: undef :: undef :: undef :: undef :: undef :: undef :: undef :: undef :: undef :: undef :: undef :: undef :: undef :: undef :: undef :: undef :: undef :: undef :: undef :: undef :: undef :: undef :: undef :: undef :: undef :: undef :: undef :: undef :: undef :: undef :: undef :: undef :: undef :: undef :: undef :: undef :: undef :: undef :: undef :: []) Tryd.func6 rfl (by kernel_rfl) ?_
  refine wp_seq ?_
  refine wp_region_lit ?_
  refine ql (.bool false) (by kernel_rfl) (by kernel_rfl) ?_
  refine wpList_nil ?_
  refine x_then ?_
  refine wp_seq ?_
  refine wp_seq ?_
  refine wp_region_lit ?_
  refine ql (.int .i64 n) (by kernel_rfl) (by kernel_rfl) ?_
  by_cases hc1 : n < (0 : Int)
  · skip
    refine ql (.bool true) (by kernel_rfl) (R_bool (p := n < (0 : Int)) (by kernel_rfl) (hc1)) ?_
    refine ql (.bool true) (by kernel_rfl) (by kernel_rfl) ?_
    refine qln (by kernel_rfl) ?_
    refine qln (by kernel_rfl) ?_
    refine ql (.bool true) (by kernel_rfl) (by kernel_rfl) ?_
    refine ql (.bool true) (by kernel_rfl) (by kernel_rfl) ?_
    refine qln (by kernel_rfl) ?_
    refine qln (by kernel_rfl) ?_
    refine qln (by kernel_rfl) ?_
    refine ql (.bool true) (by kernel_rfl) (by kernel_rfl) ?_
    refine wpList_nil ?_
    refine x_then ?_
    refine wp_cond_true (by kernel_rfl) ?_
    refine wp_seq ?_
    refine wp_region_lit ?_
    refine qc (f := 23) (args := #[]) (by kernel_rfl) (R_call #[] Tryd.func23 (by kernel_rfl) (by kernel_rfl) (by kernel_rfl)) ?_
    refine (mawake _).mono ?_
    rintro e W2 ⟨rfl, H_⟩
    refine ⟨_, rfl, ?_⟩
    replace HS : St W (owns []) W2 [] := HS.join (F := []) (G := []) H_
    clear H_
    refine ql (.bool true) (by kernel_rfl) (by kernel_rfl) ?_
    refine wpList_nil ?_
    refine x_then ?_
    refine wp_ret ?_
    refine x_thenR ?_
    refine ret_ (.bool true) (by kernel_rfl) ?_
    exact ⟨rfl, HS⟩
  · skip
    refine ql (.bool false) (by kernel_rfl) (R_nbool (p := n < (0 : Int)) (by kernel_rfl) (hc1)) ?_
    refine ql (.bool false) (by kernel_rfl) (by kernel_rfl) ?_
    refine ql (.int .i64 n) (by kernel_rfl) (by kernel_rfl) ?_
    by_cases hc3 : n > (10 : Int)
    · skip
      refine ql (.bool true) (by kernel_rfl) (R_bool (p := n > (10 : Int)) (by kernel_rfl) (hc3)) ?_
      refine ql (.bool true) (by kernel_rfl) (by kernel_rfl) ?_
      refine ql (.bool true) (by kernel_rfl) (by kernel_rfl) ?_
      refine qln (by kernel_rfl) ?_
      refine qln (by kernel_rfl) ?_
      refine qln (by kernel_rfl) ?_
      refine ql (.bool true) (by kernel_rfl) (by kernel_rfl) ?_
      refine wpList_nil ?_
      refine x_then ?_
      refine wp_cond_true (by kernel_rfl) ?_
      refine wp_seq ?_
      refine wp_region_lit ?_
      refine qc (f := 23) (args := #[]) (by kernel_rfl) (R_call #[] Tryd.func23 (by kernel_rfl) (by kernel_rfl) (by kernel_rfl)) ?_
      refine (mawake _).mono ?_
      rintro e W4 ⟨rfl, H_⟩
      refine ⟨_, rfl, ?_⟩
      replace HS : St W (owns []) W4 [] := HS.join (F := []) (G := []) H_
      clear H_
      refine ql (.bool true) (by kernel_rfl) (by kernel_rfl) ?_
      refine wpList_nil ?_
      refine x_then ?_
      refine wp_ret ?_
      refine x_thenR ?_
      refine ret_ (.bool true) (by kernel_rfl) ?_
      exact ⟨rfl, HS⟩
    · skip
      refine ql (.bool false) (by kernel_rfl) (R_nbool (p := n > (10 : Int)) (by kernel_rfl) (hc3)) ?_
      refine ql (.bool false) (by kernel_rfl) (by kernel_rfl) ?_
      refine ql (.bool false) (by kernel_rfl) (by kernel_rfl) ?_
      refine ql (.slice Al l.length cl) (by kernel_rfl) (by kernel_rfl) ?_
      refine ql (.int .i64 (l.length : Int)) (by kernel_rfl) (by kernel_rfl) ?_
      by_cases hc5 : (l.length : Int) > (30 : Int)
      · skip
        refine ql (.bool true) (by kernel_rfl) (R_bool (p := (l.length : Int) > (30 : Int)) (by kernel_rfl) (hc5)) ?_
        refine ql (.bool true) (by kernel_rfl) (by kernel_rfl) ?_
        refine wpList_nil ?_
        refine x_then ?_
        refine wp_cond_true (by kernel_rfl) ?_
        refine wp_seq ?_
        refine wp_region_lit ?_
        refine qc (f := 23) (args := #[]) (by kernel_rfl) (R_call #[] Tryd.func23 (by kernel_rfl) (by kernel_rfl) (by kernel_rfl)) ?_
        refine (mawake _).mono ?_
        rintro e W6 ⟨rfl, H_⟩
        refine ⟨_, rfl, ?_⟩
        replace HS : St W (owns []) W6 [] := HS.join (F := []) (G := []) H_
        clear H_
        refine ql (.bool true) (by kernel_rfl) (by kernel_rfl) ?_
        refine wpList_nil ?_
        refine x_then ?_
        refine wp_ret ?_
        refine x_thenR ?_
        refine ret_ (.bool true) (by kernel_rfl) ?_
        exact ⟨rfl, HS⟩
      · skip
        refine ql (.bool false) (by kernel_rfl) (R_nbool (p := (l.length : Int) > (30 : Int)) (by kernel_rfl) (hc5)) ?_
        refine ql (.bool false) (by kernel_rfl) (by kernel_rfl) ?_
        refine wpList_nil ?_
        refine x_then ?_
        refine wp_cond_false (by kernel_rfl) ?_
        refine wp_skip ?_
        refine x_then ?_
        refine wp_seq ?_
        refine wp_region_lit ?_
        refine ql (.int .i64 n) (by kernel_rfl) (by kernel_rfl) ?_
        refine ql (.int .i64 n) (by kernel_rfl) (by kernel_rfl) ?_
        refine qc (f := 24) (args := #[.int .i64 n, .int .i64 n]) (by kernel_rfl) (R_call #[.int .i64 n, .int .i64 n] Tryd.func24 (by kernel_rfl) (by kernel_rfl) (by kernel_rfl)) ?_
        refine (mnew_ok n n _ (by omega) (by omega) (by omega) (by omega)).mono ?_
        rintro e W12 ⟨g7, a8, cr9, rs10, rfl, H_, hqrs10⟩
        have hR11 : MRep rs10 n (List.replicate n.toNat ([] : List Int)) := by rw [hqrs10]; exact MRep.zero (by omega)
        have hlrs10 : rs10.length = n.toNat := by rw [hqrs10, List.length_replicate]
        refine ⟨_, rfl, ?_⟩
        replace HS : St W (owns []) W12 [blk g7 [.slice (some ⟨a8, 0, none⟩) rs10.length cr9, .int .i64 n] 87, row (some ⟨a8, 0, none⟩) rs10.length cr9 (cf cpt rs10) 32 1, many (rsE 77 74 n rs10)] := HS.join (F := []) (G := [blk g7 [.slice (some ⟨a8, 0, none⟩) rs10.length cr9, .int .i64 n] 87, row (some ⟨a8, 0, none⟩) rs10.length cr9 (cf cpt rs10) 32 1, many (rsE 77 74 n rs10)]) H_
        clear H_
        refine ql (.tuple #[.pointer (some ⟨g7, 0, none⟩), .int .i64 0]) (by kernel_rfl) (by kernel_rfl) ?_
        refine ql (.pointer (some ⟨g7, 0, none⟩)) (by kernel_rfl) (by kernel_rfl) ?_
        refine ql (.int .i64 0) (by kernel_rfl) (by kernel_rfl) ?_
        refine ql (.pointer (some ⟨g7, 0, none⟩)) (by kernel_rfl) (by kernel_rfl) ?_
        refine ql (.int .i64 0) (by kernel_rfl) (by kernel_rfl) ?_
        refine wpList_nil ?_
        refine x_then ?_
        refine wp_seq ?_
        refine wp_seq ?_
        refine wp_region_lit ?_
        refine ql (.pointer (some ⟨g7, 0, none⟩)) (by kernel_rfl) (by kernel_rfl) ?_
        refine ql (.bool false) (by kernel_rfl) (by kernel_rfl) ?_
        refine ql (.bool false) (by kernel_rfl) (by kernel_rfl) ?_
        refine ql (.int .i64 0) (by kernel_rfl) (by kernel_rfl) ?_
        refine ql (.bool false) (by kernel_rfl) (R_beq (b := ((0 : Int) != 0)) (by kernel_rfl) (by decide)) ?_
        refine ql (.bool false) (by kernel_rfl) (by kernel_rfl) ?_
        refine wpList_nil ?_
        refine x_then ?_
        refine wp_cond_false (by kernel_rfl) ?_
        refine wp_skip ?_
        refine x_then ?_
        refine wp_seq ?_
        refine wp_seq ?_
        refine wp_region_lit ?_
        refine ql (.int .i64 0) (by kernel_rfl) (by kernel_rfl) ?_
        refine wpList_nil ?_
        refine x_then ?_
        refine wp_block ?_
        refine wp_loop_ghost (fun kq a' w' => ∃ (J13 : Nat → Value) (k : Int) (rs_ : List Rw) (Ls_ : List (List Int)) , a' = Fr ((.int .i64 n) :: (.slice Al l.length cl) :: undef :: undef :: (.bool false) :: (.pointer (some ⟨g7, 0, none⟩)) :: (.int .i64 0) :: (.int .i64 k) :: undef :: undef :: undef :: undef :: (.int .i64 n) :: (.bool false) :: (.bool false) :: (.int .i64 n) :: (.bool false) :: (.bool false) :: (.bool false) :: (.slice Al l.length cl) :: (.int .i64 (l.length : Int)) :: (.bool false) :: (.bool false) :: undef :: (.tuple #[.pointer (some ⟨g7, 0, none⟩), .int .i64 0]) :: (.int .i64 n) :: (.int .i64 n) :: (.tuple #[.pointer (some ⟨g7, 0, none⟩), .int .i64 0]) :: (.pointer (some ⟨g7, 0, none⟩)) :: (.int .i64 0) :: (.pointer (some ⟨g7, 0, none⟩)) :: (.bool false) :: (.bool false) :: (.int .i64 0) :: (.bool false) :: (.bool false) :: ((J13 36)) :: ((J13 37)) :: ((J13 38)) :: ((J13 39)) :: ((J13 40)) :: ((J13 41)) :: ((J13 42)) :: ((J13 43)) :: ((J13 44)) :: ((J13 45)) :: ((J13 46)) :: ((J13 47)) :: ((J13 48)) :: ((J13 49)) :: ((J13 50)) :: ((J13 51)) :: ((J13 52)) :: ((J13 53)) :: undef :: undef :: undef :: undef :: undef :: undef :: undef :: undef :: undef :: undef :: undef :: undef :: undef :: undef :: undef :: undef :: undef :: undef :: undef :: undef :: undef :: undef :: undef :: undef :: undef :: undef :: undef :: undef :: undef :: undef :: undef :: undef :: undef :: undef :: undef :: undef :: undef :: undef :: undef :: undef :: undef :: undef :: undef :: undef :: undef :: undef :: undef :: undef :: undef :: undef :: undef :: undef :: undef :: undef :: undef :: undef :: undef :: undef :: undef :: undef :: undef :: undef :: undef :: undef :: undef :: undef :: undef :: undef :: undef :: undef :: undef :: undef :: undef :: undef :: undef :: undef :: undef :: undef :: undef :: undef :: undef :: undef :: undef :: undef :: undef :: undef :: undef :: []) ∧ kq = (l.length - (k).toNat) ∧ (0 ≤ k) ∧ (k ≤ l.length) ∧ (MRep rs_ n Ls_) ∧ ((rs_.length : Int) = n) ∧ St W (owns []) w' [blk g7 [.slice (some ⟨a8, 0, none⟩) rs_.length cr9, .int .i64 n] 87, row (some ⟨a8, 0, none⟩) rs_.length cr9 (cf cpt rs_) 32 1, many (rsE 77 74 n rs_)]) (l.length - ((0 : Int)).toNat) ⟨(fun k_ : Nat => List.getD ((.int .i64 n) :: (.slice Al l.length cl) :: undef :: undef :: (.bool false) :: (.pointer (some ⟨g7, 0, none⟩)) :: (.int .i64 0) :: (.int .i64 0) :: undef :: undef :: undef :: undef :: (.int .i64 n) :: (.bool false) :: (.bool false) :: (.int .i64 n) :: (.bool false) :: (.bool false) :: (.bool false) :: (.slice Al l.length cl) :: (.int .i64 (l.length : Int)) :: (.bool false) :: (.bool false) :: undef :: (.tuple #[.pointer (some ⟨g7, 0, none⟩), .int .i64 0]) :: (.int .i64 n) :: (.int .i64 n) :: (.tuple #[.pointer (some ⟨g7, 0, none⟩), .int .i64 0]) :: (.pointer (some ⟨g7, 0, none⟩)) :: (.int .i64 0) :: (.pointer (some ⟨g7, 0, none⟩)) :: (.bool false) :: (.bool false) :: (.int .i64 0) :: (.bool false) :: (.bool false) :: undef :: undef :: undef :: undef :: undef :: undef :: undef :: undef :: undef :: undef :: undef :: undef :: undef :: undef :: undef :: undef :: undef :: undef :: undef :: undef :: undef :: undef :: undef :: undef :: undef :: undef :: undef :: undef :: undef :: undef :: undef :: undef :: undef :: undef :: undef :: undef :: undef :: undef :: undef :: undef :: undef :: undef :: undef :: undef :: undef :: undef :: undef :: undef :: undef :: undef :: undef :: undef :: undef :: undef :: undef :: undef :: undef :: undef :: undef :: undef :: undef :: undef :: undef :: undef :: undef :: undef :: undef :: undef :: undef :: undef :: undef :: undef :: undef :: undef :: undef :: undef :: undef :: undef :: undef :: undef :: undef :: undef :: undef :: undef :: undef :: undef :: undef :: undef :: undef :: undef :: undef :: undef :: undef :: undef :: undef :: undef :: undef :: undef :: undef :: undef :: undef :: undef :: undef :: undef :: undef :: []) k_ undef), (0 : Int), rs10, (List.replicate n.toNat ([] : List Int)), congrArg Fr (by kernel_rfl), rfl, by omega, by omega, hR11, (by omega), HS⟩ ?_
        clear HS
        intro kq14 a' W15 hrel
        obtain ⟨J13, k, rs_, Ls_, rfl, hk, k0, k1, hRk, hlk, HS⟩ := hrel
        have hLl := hRk.len
        refine wp_seq ?_
        refine wp_seq ?_
        refine wp_region_lit ?_
        refine ql (.int .i64 k) (by kernel_rfl) (by kernel_rfl) ?_
        refine ql (.slice Al l.length cl) (by kernel_rfl) (by kernel_rfl) ?_
        refine ql (.int .i64 (l.length : Int)) (by kernel_rfl) (by kernel_rfl) ?_
        by_cases hc16 : k < (l.length : Int)
        · skip
          refine ql (.bool true) (by kernel_rfl) (R_bool (p := k < (l.length : Int)) (by kernel_rfl) (hc16)) ?_
          refine wpList_nil ?_
          refine x_then ?_
          refine wp_cond_true (by kernel_rfl) ?_
          refine wp_skip ?_
          refine x_then ?_
          refine wp_seq ?_
          refine wp_block ?_
          refine rg_still HS 11 (by kernel_rfl) (by kernel_rfl) ?_
          intro W17 H_ HK_
          simp only [List.take_succ_cons, List.take_zero, List.drop_succ_cons, List.drop_zero]
          replace HS : St W (owns []) W17 [blk g7 [.slice (some ⟨a8, 0, none⟩) rs_.length cr9, .int .i64 n] 87, row (some ⟨a8, 0, none⟩) rs_.length cr9 (cf cpt rs_) 32 1, many (rsE 77 74 n rs_)] := H_
          clear H_
          clear HK_
          refine qs (.pointer (some ⟨g7, 0, none⟩)) (by kernel_rfl) (by kernel_rfl) ?_
          refine qs (.slice Al l.length cl) (by kernel_rfl) (by kernel_rfl) ?_
          refine qs (.int .i64 k) (by kernel_rfl) (by kernel_rfl) ?_
          obtain ⟨ad18, rfl⟩ := Rd.isSome_ hra (by rw [cf_len (z := 2) (fun _ => rfl)]; omega)
          refine qs (.pointer (some (ad18.add (k.toNat * 2)))) (by kernel_rfl) (R_indexA (k := .i64) (p := ad18) (n := l.length) (c := cl) (i := k) (by kernel_rfl) (by kernel_rfl) Tryd.underlying44 (by kernel_rfl) (by omega) (by omega)) ?_
          refine qs (.pointer (some (ad18.add (k.toNat * 2)))) (by kernel_rfl) (by kernel_rfl) ?_
          refine qs (.int .i64 ((gx l k).1)) (by kernel_rfl) (R_load (p := ad18.add (k.toNat * 2)) (by kernel_rfl) (by kernel_rfl) (by kernel_rfl) (HS.old0 (Rd.elem0 (f := actD) (fun _ => rfl) hra (gx_eq (by omega) (by omega)) rfl))) ?_
          refine qs (.slice (some ad18) l.length cl) (by kernel_rfl) (by kernel_rfl) ?_
          refine qs (.int .i64 k) (by kernel_rfl) (by kernel_rfl) ?_
          refine qs (.pointer (some (ad18.add (k.toNat * 2)))) (by kernel_rfl) (R_indexA (k := .i64) (p := ad18) (n := l.length) (c := cl) (i := k) (by kernel_rfl) (by kernel_rfl) Tryd.underlying44 (by kernel_rfl) (by omega) (by omega)) ?_
          refine qs (.pointer (some ((ad18.add (k.toNat * 2)).add 1))) (by kernel_rfl) (by kernel_rfl) ?_
          refine qs (.int .i64 ((gx l k).2)) (by kernel_rfl) (R_load (p := (ad18.add (k.toNat * 2)).add 1) (by kernel_rfl) (by kernel_rfl) (by kernel_rfl) (HS.old0 (Rd.elem1 (k := 1) (f := actD) (fun _ => rfl) hra (gx_eq (by omega) (by omega)) rfl))) ?_
          refine wpStill_nil ?_
          refine qc (f := 36) (args := #[.pointer (some ⟨g7, 0, none⟩), .int .i64 ((gx l k).1), .int .i64 ((gx l k).2)]) (by kernel_rfl) (R_call #[.pointer (some ⟨g7, 0, none⟩), .int .i64 ((gx l k).1), .int .i64 ((gx l k).2)] Tryd.func36 (by kernel_rfl) (by kernel_rfl) (by kernel_rfl)) ?_
          refine (madd g7 cr9 (some ⟨a8, 0, none⟩) n rs_ Ls_ ((gx l k).1) ((gx l k).2) _ _ (St.focus (F := [blk g7 [.slice (some ⟨a8, 0, none⟩) rs_.length cr9, .int .i64 n] 87, row (some ⟨a8, 0, none⟩) rs_.length cr9 (cf cpt rs_) 32 1, many (rsE 77 74 n rs_)]) HS) hRk (by omega) (by omega)).mono ?_
          rintro e W21 ⟨rs19, rfl, H_, hR20, hlrs19⟩
          refine ⟨_, rfl, ?_⟩
          replace HS : St W (owns []) W21 [blk g7 [.slice (some ⟨a8, 0, none⟩) rs19.length cr9, .int .i64 n] 87, row (some ⟨a8, 0, none⟩) rs19.length cr9 (cf cpt rs19) 32 1, many (rsE 77 74 n rs19)] := HS.join (F := [blk g7 [.slice (some ⟨a8, 0, none⟩) rs_.length cr9, .int .i64 n] 87, row (some ⟨a8, 0, none⟩) rs_.length cr9 (cf cpt rs_) 32 1, many (rsE 77 74 n rs_)]) (G := [blk g7 [.slice (some ⟨a8, 0, none⟩) rs19.length cr9, .int .i64 n] 87, row (some ⟨a8, 0, none⟩) rs19.length cr9 (cf cpt rs19) 32 1, many (rsE 77 74 n rs19)]) H_
          clear H_
          refine wpList_nil ?_
          refine x_inb ?_
          refine x_then ?_
          refine wp_region_lit ?_
          refine ql (.int .i64 k) (by kernel_rfl) (by kernel_rfl) ?_
          refine ql (.int .i64 (k + 1)) (by kernel_rfl) (R_int (by kernel_rfl) (w64 (by omega))) ?_
          refine ql (.int .i64 (k + 1)) (by kernel_rfl) (by kernel_rfl) ?_
          refine wpList_nil ?_
          refine x_then ?_
          exact ⟨l.length - (k + 1).toNat, by omega, (fun k_ : Nat => List.getD ((.int .i64 n) :: (.slice (some ad18) l.length cl) :: undef :: undef :: (.bool false) :: (.pointer (some ⟨g7, 0, none⟩)) :: (.int .i64 0) :: (.int .i64 (k + 1)) :: undef :: undef :: undef :: undef :: (.int .i64 n) :: (.bool false) :: (.bool false) :: (.int .i64 n) :: (.bool false) :: (.bool false) :: (.bool false) :: (.slice (some ad18) l.length cl) :: (.int .i64 (l.length : Int)) :: (.bool false) :: (.bool false) :: undef :: (.tuple #[.pointer (some ⟨g7, 0, none⟩), .int .i64 0]) :: (.int .i64 n) :: (.int .i64 n) :: (.tuple #[.pointer (some ⟨g7, 0, none⟩), .int .i64 0]) :: (.pointer (some ⟨g7, 0, none⟩)) :: (.int .i64 0) :: (.pointer (some ⟨g7, 0, none⟩)) :: (.bool false) :: (.bool false) :: (.int .i64 0) :: (.bool false) :: (.bool false) :: (.int .i64 k) :: (.slice (some ad18) l.length cl) :: (.int .i64 (l.length : Int)) :: (.bool true) :: (.int .i64 k) :: (.int .i64 (k + 1)) :: (.pointer (some ⟨g7, 0, none⟩)) :: (.slice (some ad18) l.length cl) :: (.int .i64 k) :: (.pointer (some (ad18.add (k.toNat * 2)))) :: (.pointer (some (ad18.add (k.toNat * 2)))) :: (.int .i64 ((gx l k).1)) :: (.slice (some ad18) l.length cl) :: (.int .i64 k) :: (.pointer (some (ad18.add (k.toNat * 2)))) :: (.pointer (some ((ad18.add (k.toNat * 2)).add 1))) :: (.int .i64 ((gx l k).2)) :: (.bool (addMB Ls_ n ((gx l k).1) ((gx l k).2))) :: undef :: undef :: undef :: undef :: undef :: undef :: undef :: undef :: undef :: undef :: undef :: undef :: undef :: undef :: undef :: undef :: undef :: undef :: undef :: undef :: undef :: undef :: undef :: undef :: undef :: undef :: undef :: undef :: undef :: undef :: undef :: undef :: undef :: undef :: undef :: undef :: undef :: undef :: undef :: undef :: undef :: undef :: undef :: undef :: undef :: undef :: undef :: undef :: undef :: undef :: undef :: undef :: undef :: undef :: undef :: undef :: undef :: undef :: undef :: undef :: undef :: undef :: undef :: undef :: undef :: undef :: undef :: undef :: undef :: undef :: undef :: undef :: undef :: undef :: undef :: undef :: undef :: undef :: undef :: undef :: undef :: undef :: undef :: undef :: undef :: undef :: undef :: []) k_ undef), k + 1, rs19, (addM Ls_ n ((gx l k).1) ((gx l k).2)), congrArg Fr (by kernel_rfl), rfl, by omega, by omega, hR20, (by omega), HS⟩
        · skip
          refine ql (.bool false) (by kernel_rfl) (R_nbool (p := k < (l.length : Int)) (by kernel_rfl) (hc16)) ?_
          refine wpList_nil ?_
          refine x_then ?_
          refine wp_cond_false (by kernel_rfl) ?_
          refine wp_exit ?_
          refine x_thenE ?_
          refine x_thenE ?_
          refine x_hit ?_
          refine x_then ?_
          refine wp_seq ?_
          refine wp_region_lit ?_
          refine ql (.pointer (some ⟨g7, 0, none⟩)) (by kernel_rfl) (by kernel_rfl) ?_
          refine qc (f := 37) (args := #[.pointer (some ⟨g7, 0, none⟩)]) (by kernel_rfl) (R_call #[.pointer (some ⟨g7, 0, none⟩)] Tryd.func37 (by kernel_rfl) (by kernel_rfl) (by kernel_rfl)) ?_
          refine (mclose g7 cr9 (some ⟨a8, 0, none⟩) n rs_ Ls_ _ _ (St.focus (F := [blk g7 [.slice (some ⟨a8, 0, none⟩) rs_.length cr9, .int .i64 n] 87, row (some ⟨a8, 0, none⟩) rs_.length cr9 (cf cpt rs_) 32 1, many (rsE 77 74 n rs_)]) HS) hRk (by omega) (by omega) (by omega)).mono ?_
          rintro e W24 ⟨rs22, rfl, H_, hR23, hlrs22⟩
          refine ⟨_, rfl, ?_⟩
          replace HS : St W (owns []) W24 [blk g7 [.slice (some ⟨a8, 0, none⟩) rs22.length cr9, .int .i64 n] 87, row (some ⟨a8, 0, none⟩) rs22.length cr9 (cf cpt rs22) 32 1, many (rsE 77 74 n rs22)] := HS.join (F := [blk g7 [.slice (some ⟨a8, 0, none⟩) rs_.length cr9, .int .i64 n] 87, row (some ⟨a8, 0, none⟩) rs_.length cr9 (cf cpt rs_) 32 1, many (rsE 77 74 n rs_)]) (G := [blk g7 [.slice (some ⟨a8, 0, none⟩) rs22.length cr9, .int .i64 n] 87, row (some ⟨a8, 0, none⟩) rs22.length cr9 (cf cpt rs22) 32 1, many (rsE 77 74 n rs22)]) H_
          clear H_
          refine wpList_nil ?_
          refine x_then ?_
          refine wp_seq ?_
          refine wp_seq ?_
          refine wp_region_lit ?_
          refine ql (.int .i64 0) (by kernel_rfl) (by kernel_rfl) ?_
          refine wpList_nil ?_
          refine x_then ?_
          refine wp_block ?_
          refine wp_loop_ghost (fun kq a' w' => ∃ (J25 : Nat → Value) (r : Int) , a' = Fr ((.int .i64 n) :: (.slice Al l.length cl) :: undef :: undef :: ((J25 4)) :: (.pointer (some ⟨g7, 0, none⟩)) :: (.int .i64 0) :: (.int .i64 k) :: (.int .i64 r) :: ((J25 9)) :: ((J25 10)) :: undef :: (.int .i64 n) :: (.bool false) :: (.bool false) :: (.int .i64 n) :: (.bool false) :: (.bool false) :: (.bool false) :: (.slice Al l.length cl) :: (.int .i64 (l.length : Int)) :: (.bool false) :: (.bool false) :: undef :: (.tuple #[.pointer (some ⟨g7, 0, none⟩), .int .i64 0]) :: (.int .i64 n) :: (.int .i64 n) :: (.tuple #[.pointer (some ⟨g7, 0, none⟩), .int .i64 0]) :: (.pointer (some ⟨g7, 0, none⟩)) :: (.int .i64 0) :: (.pointer (some ⟨g7, 0, none⟩)) :: (.bool false) :: (.bool false) :: (.int .i64 0) :: (.bool false) :: (.bool false) :: (.int .i64 k) :: (.slice Al l.length cl) :: (.int .i64 (l.length : Int)) :: (.bool false) :: ((J13 40)) :: ((J13 41)) :: ((J13 42)) :: ((J13 43)) :: ((J13 44)) :: ((J13 45)) :: ((J13 46)) :: ((J13 47)) :: ((J13 48)) :: ((J13 49)) :: ((J13 50)) :: ((J13 51)) :: ((J13 52)) :: ((J13 53)) :: (.pointer (some ⟨g7, 0, none⟩)) :: (.int .i64 ((cntL (clo Ls_) : Int) - (cntL Ls_ : Int))) :: ((J25 56)) :: ((J25 57)) :: ((J25 58)) :: ((J25 59)) :: ((J25 60)) :: ((J25 61)) :: ((J25 62)) :: ((J25 63)) :: ((J25 64)) :: ((J25 65)) :: ((J25 66)) :: ((J25 67)) :: ((J25 68)) :: ((J25 69)) :: ((J25 70)) :: ((J25 71)) :: ((J25 72)) :: ((J25 73)) :: ((J25 74)) :: ((J25 75)) :: ((J25 76)) :: ((J25 77)) :: ((J25 78)) :: ((J25 79)) :: ((J25 80)) :: ((J25 81)) :: ((J25 82)) :: ((J25 83)) :: ((J25 84)) :: ((J25 85)) :: ((J25 86)) :: ((J25 87)) :: undef :: undef :: undef :: undef :: undef :: undef :: undef :: undef :: undef :: undef :: undef :: undef :: undef :: undef :: undef :: undef :: undef :: undef :: undef :: undef :: undef :: undef :: undef :: undef :: undef :: undef :: undef :: undef :: undef :: undef :: undef :: undef :: undef :: undef :: undef :: undef :: undef :: undef :: undef :: undef :: undef :: undef :: undef :: undef :: undef :: undef :: undef :: undef :: undef :: undef :: undef :: undef :: undef :: []) ∧ kq = (n.toNat - (r).toNat) ∧ (0 ≤ r) ∧ (r ≤ n) ∧ St W (owns []) w' [blk g7 [.slice (some ⟨a8, 0, none⟩) rs22.length cr9, .int .i64 n] 87, row (some ⟨a8, 0, none⟩) rs22.length cr9 (cf cpt rs22) 32 1, many (rsE 77 74 n rs22)]) (n.toNat - ((0 : Int)).toNat) ⟨(fun k_ : Nat => List.getD ((.int .i64 n) :: (.slice Al l.length cl) :: undef :: undef :: (.bool false) :: (.pointer (some ⟨g7, 0, none⟩)) :: (.int .i64 0) :: (.int .i64 k) :: (.int .i64 0) :: undef :: undef :: undef :: (.int .i64 n) :: (.bool false) :: (.bool false) :: (.int .i64 n) :: (.bool false) :: (.bool false) :: (.bool false) :: (.slice Al l.length cl) :: (.int .i64 (l.length : Int)) :: (.bool false) :: (.bool false) :: undef :: (.tuple #[.pointer (some ⟨g7, 0, none⟩), .int .i64 0]) :: (.int .i64 n) :: (.int .i64 n) :: (.tuple #[.pointer (some ⟨g7, 0, none⟩), .int .i64 0]) :: (.pointer (some ⟨g7, 0, none⟩)) :: (.int .i64 0) :: (.pointer (some ⟨g7, 0, none⟩)) :: (.bool false) :: (.bool false) :: (.int .i64 0) :: (.bool false) :: (.bool false) :: (.int .i64 k) :: (.slice Al l.length cl) :: (.int .i64 (l.length : Int)) :: (.bool false) :: ((J13 40)) :: ((J13 41)) :: ((J13 42)) :: ((J13 43)) :: ((J13 44)) :: ((J13 45)) :: ((J13 46)) :: ((J13 47)) :: ((J13 48)) :: ((J13 49)) :: ((J13 50)) :: ((J13 51)) :: ((J13 52)) :: ((J13 53)) :: (.pointer (some ⟨g7, 0, none⟩)) :: (.int .i64 ((cntL (clo Ls_) : Int) - (cntL Ls_ : Int))) :: undef :: undef :: undef :: undef :: undef :: undef :: undef :: undef :: undef :: undef :: undef :: undef :: undef :: undef :: undef :: undef :: undef :: undef :: undef :: undef :: undef :: undef :: undef :: undef :: undef :: undef :: undef :: undef :: undef :: undef :: undef :: undef :: undef :: undef :: undef :: undef :: undef :: undef :: undef :: undef :: undef :: undef :: undef :: undef :: undef :: undef :: undef :: undef :: undef :: undef :: undef :: undef :: undef :: undef :: undef :: undef :: undef :: undef :: undef :: undef :: undef :: undef :: undef :: undef :: undef :: undef :: undef :: undef :: undef :: undef :: undef :: undef :: undef :: undef :: undef :: undef :: undef :: undef :: undef :: undef :: undef :: undef :: undef :: undef :: undef :: []) k_ undef), (0 : Int), congrArg Fr (by kernel_rfl), rfl, by omega, by omega, HS⟩ ?_
          clear HS
          intro kq26 a' W27 hrel
          obtain ⟨J25, r, rfl, hk, r0, r1, HS⟩ := hrel
          refine wp_seq ?_
          refine wp_seq ?_
          refine wp_region_lit ?_
          refine ql (.int .i64 r) (by kernel_rfl) (by kernel_rfl) ?_
          refine ql (.int .i64 n) (by kernel_rfl) (by kernel_rfl) ?_
          by_cases hc28 : r < n
          · skip
            refine ql (.bool true) (by kernel_rfl) (R_bool (p := r < n) (by kernel_rfl) (hc28)) ?_
            refine wpList_nil ?_
            refine x_then ?_
            refine wp_cond_true (by kernel_rfl) ?_
            refine wp_skip ?_
            refine x_then ?_
            refine wp_seq ?_
            refine wp_block ?_
            refine wp_seq ?_
            refine wp_region_lit ?_
            refine ql (.int .i64 0) (by kernel_rfl) (by kernel_rfl) ?_
            refine wpList_nil ?_
            refine x_then ?_
            refine wp_block ?_
            refine wp_loop_ghost (fun kq a' w' => ∃ (J29 : Nat → Value) (kk : Int) , a' = Fr ((.int .i64 n) :: (.slice Al l.length cl) :: undef :: undef :: ((J29 4)) :: (.pointer (some ⟨g7, 0, none⟩)) :: (.int .i64 0) :: (.int .i64 k) :: (.int .i64 r) :: (.int .i64 kk) :: ((J29 10)) :: undef :: (.int .i64 n) :: (.bool false) :: (.bool false) :: (.int .i64 n) :: (.bool false) :: (.bool false) :: (.bool false) :: (.slice Al l.length cl) :: (.int .i64 (l.length : Int)) :: (.bool false) :: (.bool false) :: undef :: (.tuple #[.pointer (some ⟨g7, 0, none⟩), .int .i64 0]) :: (.int .i64 n) :: (.int .i64 n) :: (.tuple #[.pointer (some ⟨g7, 0, none⟩), .int .i64 0]) :: (.pointer (some ⟨g7, 0, none⟩)) :: (.int .i64 0) :: (.pointer (some ⟨g7, 0, none⟩)) :: (.bool false) :: (.bool false) :: (.int .i64 0) :: (.bool false) :: (.bool false) :: (.int .i64 k) :: (.slice Al l.length cl) :: (.int .i64 (l.length : Int)) :: (.bool false) :: ((J13 40)) :: ((J13 41)) :: ((J13 42)) :: ((J13 43)) :: ((J13 44)) :: ((J13 45)) :: ((J13 46)) :: ((J13 47)) :: ((J13 48)) :: ((J13 49)) :: ((J13 50)) :: ((J13 51)) :: ((J13 52)) :: ((J13 53)) :: (.pointer (some ⟨g7, 0, none⟩)) :: (.int .i64 ((cntL (clo Ls_) : Int) - (cntL Ls_ : Int))) :: (.int .i64 r) :: (.int .i64 n) :: (.bool true) :: ((J25 59)) :: ((J25 60)) :: ((J29 61)) :: ((J29 62)) :: ((J29 63)) :: ((J29 64)) :: ((J29 65)) :: ((J29 66)) :: ((J29 67)) :: ((J29 68)) :: ((J29 69)) :: ((J29 70)) :: ((J29 71)) :: ((J29 72)) :: ((J29 73)) :: ((J29 74)) :: ((J29 75)) :: ((J29 76)) :: ((J29 77)) :: ((J29 78)) :: ((J29 79)) :: ((J29 80)) :: ((J29 81)) :: ((J29 82)) :: ((J29 83)) :: ((J29 84)) :: ((J29 85)) :: ((J29 86)) :: ((J29 87)) :: undef :: undef :: undef :: undef :: undef :: undef :: undef :: undef :: undef :: undef :: undef :: undef :: undef :: undef :: undef :: undef :: undef :: undef :: undef :: undef :: undef :: undef :: undef :: undef :: undef :: undef :: undef :: undef :: undef :: undef :: undef :: undef :: undef :: undef :: undef :: undef :: undef :: undef :: undef :: undef :: undef :: undef :: undef :: undef :: undef :: undef :: undef :: undef :: undef :: undef :: undef :: undef :: undef :: []) ∧ kq = (n.toNat - (kk).toNat) ∧ (0 ≤ kk) ∧ (kk ≤ n) ∧ St W (owns []) w' [blk g7 [.slice (some ⟨a8, 0, none⟩) rs22.length cr9, .int .i64 n] 87, row (some ⟨a8, 0, none⟩) rs22.length cr9 (cf cpt rs22) 32 1, many (rsE 77 74 n rs22)]) (n.toNat - ((0 : Int)).toNat) ⟨(fun k_ : Nat => List.getD ((.int .i64 n) :: (.slice Al l.length cl) :: undef :: undef :: ((J25 4)) :: (.pointer (some ⟨g7, 0, none⟩)) :: (.int .i64 0) :: (.int .i64 k) :: (.int .i64 r) :: (.int .i64 0) :: ((J25 10)) :: undef :: (.int .i64 n) :: (.bool false) :: (.bool false) :: (.int .i64 n) :: (.bool false) :: (.bool false) :: (.bool false) :: (.slice Al l.length cl) :: (.int .i64 (l.length : Int)) :: (.bool false) :: (.bool false) :: undef :: (.tuple #[.pointer (some ⟨g7, 0, none⟩), .int .i64 0]) :: (.int .i64 n) :: (.int .i64 n) :: (.tuple #[.pointer (some ⟨g7, 0, none⟩), .int .i64 0]) :: (.pointer (some ⟨g7, 0, none⟩)) :: (.int .i64 0) :: (.pointer (some ⟨g7, 0, none⟩)) :: (.bool false) :: (.bool false) :: (.int .i64 0) :: (.bool false) :: (.bool false) :: (.int .i64 k) :: (.slice Al l.length cl) :: (.int .i64 (l.length : Int)) :: (.bool false) :: ((J13 40)) :: ((J13 41)) :: ((J13 42)) :: ((J13 43)) :: ((J13 44)) :: ((J13 45)) :: ((J13 46)) :: ((J13 47)) :: ((J13 48)) :: ((J13 49)) :: ((J13 50)) :: ((J13 51)) :: ((J13 52)) :: ((J13 53)) :: (.pointer (some ⟨g7, 0, none⟩)) :: (.int .i64 ((cntL (clo Ls_) : Int) - (cntL Ls_ : Int))) :: (.int .i64 r) :: (.int .i64 n) :: (.bool true) :: ((J25 59)) :: ((J25 60)) :: ((J25 61)) :: ((J25 62)) :: ((J25 63)) :: ((J25 64)) :: ((J25 65)) :: ((J25 66)) :: ((J25 67)) :: ((J25 68)) :: ((J25 69)) :: ((J25 70)) :: ((J25 71)) :: ((J25 72)) :: ((J25 73)) :: ((J25 74)) :: ((J25 75)) :: ((J25 76)) :: ((J25 77)) :: ((J25 78)) :: ((J25 79)) :: ((J25 80)) :: ((J25 81)) :: ((J25 82)) :: ((J25 83)) :: ((J25 84)) :: ((J25 85)) :: ((J25 86)) :: ((J25 87)) :: undef :: undef :: undef :: undef :: undef :: undef :: undef :: undef :: undef :: undef :: undef :: undef :: undef :: undef :: undef :: undef :: undef :: undef :: undef :: undef :: undef :: undef :: undef :: undef :: undef :: undef :: undef :: undef :: undef :: undef :: undef :: undef :: undef :: undef :: undef :: undef :: undef :: undef :: undef :: undef :: undef :: undef :: undef :: undef :: undef :: undef :: undef :: undef :: undef :: undef :: undef :: undef :: undef :: []) k_ undef), (0 : Int), congrArg Fr (by kernel_rfl), rfl, by omega, by omega, HS⟩ ?_
            clear HS
            intro kq30 a' W31 hrel
            obtain ⟨J29, kk, rfl, hk, kk0, kk1, HS⟩ := hrel
            refine wp_seq ?_
            refine wp_seq ?_
            refine wp_region_lit ?_
            refine ql (.int .i64 kk) (by kernel_rfl) (by kernel_rfl) ?_
            refine ql (.int .i64 n) (by kernel_rfl) (by kernel_rfl) ?_
            by_cases hc32 : kk < n
            · skip
              refine ql (.bool true) (by kernel_rfl) (R_bool (p := kk < n) (by kernel_rfl) (hc32)) ?_
              refine wpList_nil ?_
              refine x_then ?_
              refine wp_cond_true (by kernel_rfl) ?_
              refine wp_skip ?_
              refine x_then ?_
              refine wp_seq ?_
              refine wp_block ?_
              refine wp_seq ?_
              refine wp_region_lit ?_
              refine ql (.int .i64 0) (by kernel_rfl) (by kernel_rfl) ?_
              refine wpList_nil ?_
              refine x_then ?_
              refine wp_block ?_
              refine wp_loop_ghost (fun kq a' w' => ∃ (J33 : Nat → Value) (c : Int) , a' = Fr ((.int .i64 n) :: (.slice Al l.length cl) :: undef :: undef :: ((J33 4)) :: (.pointer (some ⟨g7, 0, none⟩)) :: (.int .i64 0) :: (.int .i64 k) :: (.int .i64 r) :: (.int .i64 kk) :: (.int .i64 c) :: undef :: (.int .i64 n) :: (.bool false) :: (.bool false) :: (.int .i64 n) :: (.bool false) :: (.bool false) :: (.bool false) :: (.slice Al l.length cl) :: (.int .i64 (l.length : Int)) :: (.bool false) :: (.bool false) :: undef :: (.tuple #[.pointer (some ⟨g7, 0, none⟩), .int .i64 0]) :: (.int .i64 n) :: (.int .i64 n) :: (.tuple #[.pointer (some ⟨g7, 0, none⟩), .int .i64 0]) :: (.pointer (some ⟨g7, 0, none⟩)) :: (.int .i64 0) :: (.pointer (some ⟨g7, 0, none⟩)) :: (.bool false) :: (.bool false) :: (.int .i64 0) :: (.bool false) :: (.bool false) :: (.int .i64 k) :: (.slice Al l.length cl) :: (.int .i64 (l.length : Int)) :: (.bool false) :: ((J13 40)) :: ((J13 41)) :: ((J13 42)) :: ((J13 43)) :: ((J13 44)) :: ((J13 45)) :: ((J13 46)) :: ((J13 47)) :: ((J13 48)) :: ((J13 49)) :: ((J13 50)) :: ((J13 51)) :: ((J13 52)) :: ((J13 53)) :: (.pointer (some ⟨g7, 0, none⟩)) :: (.int .i64 ((cntL (clo Ls_) : Int) - (cntL Ls_ : Int))) :: (.int .i64 r) :: (.int .i64 n) :: (.bool true) :: ((J25 59)) :: ((J25 60)) :: (.int .i64 kk) :: (.int .i64 n) :: (.bool true) :: ((J29 64)) :: ((J29 65)) :: ((J33 66)) :: ((J33 67)) :: ((J33 68)) :: ((J33 69)) :: ((J33 70)) :: ((J33 71)) :: ((J33 72)) :: ((J33 73)) :: ((J33 74)) :: ((J33 75)) :: ((J33 76)) :: ((J33 77)) :: ((J33 78)) :: ((J33 79)) :: ((J33 80)) :: ((J33 81)) :: ((J33 82)) :: ((J33 83)) :: ((J33 84)) :: ((J33 85)) :: ((J33 86)) :: ((J33 87)) :: undef :: undef :: undef :: undef :: undef :: undef :: undef :: undef :: undef :: undef :: undef :: undef :: undef :: undef :: undef :: undef :: undef :: undef :: undef :: undef :: undef :: undef :: undef :: undef :: undef :: undef :: undef :: undef :: undef :: undef :: undef :: undef :: undef :: undef :: undef :: undef :: undef :: undef :: undef :: undef :: undef :: undef :: undef :: undef :: undef :: undef :: undef :: undef :: undef :: undef :: undef :: undef :: undef :: []) ∧ kq = (n.toNat - (c).toNat) ∧ (0 ≤ c) ∧ (c ≤ n) ∧ St W (owns []) w' [blk g7 [.slice (some ⟨a8, 0, none⟩) rs22.length cr9, .int .i64 n] 87, row (some ⟨a8, 0, none⟩) rs22.length cr9 (cf cpt rs22) 32 1, many (rsE 77 74 n rs22)]) (n.toNat - ((0 : Int)).toNat) ⟨(fun k_ : Nat => List.getD ((.int .i64 n) :: (.slice Al l.length cl) :: undef :: undef :: ((J29 4)) :: (.pointer (some ⟨g7, 0, none⟩)) :: (.int .i64 0) :: (.int .i64 k) :: (.int .i64 r) :: (.int .i64 kk) :: (.int .i64 0) :: undef :: (.int .i64 n) :: (.bool false) :: (.bool false) :: (.int .i64 n) :: (.bool false) :: (.bool false) :: (.bool false) :: (.slice Al l.length cl) :: (.int .i64 (l.length : Int)) :: (.bool false) :: (.bool false) :: undef :: (.tuple #[.pointer (some ⟨g7, 0, none⟩), .int .i64 0]) :: (.int .i64 n) :: (.int .i64 n) :: (.tuple #[.pointer (some ⟨g7, 0, none⟩), .int .i64 0]) :: (.pointer (some ⟨g7, 0, none⟩)) :: (.int .i64 0) :: (.pointer (some ⟨g7, 0, none⟩)) :: (.bool false) :: (.bool false) :: (.int .i64 0) :: (.bool false) :: (.bool false) :: (.int .i64 k) :: (.slice Al l.length cl) :: (.int .i64 (l.length : Int)) :: (.bool false) :: ((J13 40)) :: ((J13 41)) :: ((J13 42)) :: ((J13 43)) :: ((J13 44)) :: ((J13 45)) :: ((J13 46)) :: ((J13 47)) :: ((J13 48)) :: ((J13 49)) :: ((J13 50)) :: ((J13 51)) :: ((J13 52)) :: ((J13 53)) :: (.pointer (some ⟨g7, 0, none⟩)) :: (.int .i64 ((cntL (clo Ls_) : Int) - (cntL Ls_ : Int))) :: (.int .i64 r) :: (.int .i64 n) :: (.bool true) :: ((J25 59)) :: ((J25 60)) :: (.int .i64 kk) :: (.int .i64 n) :: (.bool true) :: ((J29 64)) :: ((J29 65)) :: ((J29 66)) :: ((J29 67)) :: ((J29 68)) :: ((J29 69)) :: ((J29 70)) :: ((J29 71)) :: ((J29 72)) :: ((J29 73)) :: ((J29 74)) :: ((J29 75)) :: ((J29 76)) :: ((J29 77)) :: ((J29 78)) :: ((J29 79)) :: ((J29 80)) :: ((J29 81)) :: ((J29 82)) :: ((J29 83)) :: ((J29 84)) :: ((J29 85)) :: ((J29 86)) :: ((J29 87)) :: undef :: undef :: undef :: undef :: undef :: undef :: undef :: undef :: undef :: undef :: undef :: undef :: undef :: undef :: undef :: undef :: undef :: undef :: undef :: undef :: undef :: undef :: undef :: undef :: undef :: undef :: undef :: undef :: undef :: undef :: undef :: undef :: undef :: undef :: undef :: undef :: undef :: undef :: undef :: undef :: undef :: undef :: undef :: undef :: undef :: undef :: undef :: undef :: undef :: undef :: undef :: undef :: undef :: []) k_ undef), (0 : Int), congrArg Fr (by kernel_rfl), rfl, by omega, by omega, HS⟩ ?_
              clear HS
              intro kq34 a' W35 hrel
              obtain ⟨J33, c, rfl, hk, c0, c1, HS⟩ := hrel
              refine wp_seq ?_
              refine wp_seq ?_
              refine wp_region_lit ?_
              refine ql (.int .i64 c) (by kernel_rfl) (by kernel_rfl) ?_
              refine ql (.int .i64 n) (by kernel_rfl) (by kernel_rfl) ?_
              by_cases hc36 : c < n
              · skip
                refine ql (.bool true) (by kernel_rfl) (R_bool (p := c < n) (by kernel_rfl) (hc36)) ?_
                refine wpList_nil ?_
                refine x_then ?_
                refine wp_cond_true (by kernel_rfl) ?_
                refine wp_skip ?_
                refine x_then ?_
                refine wp_seq ?_
                refine wp_block ?_
                refine wp_seq ?_
                refine wp_region_lit ?_
                refine ql (.pointer (some ⟨g7, 0, none⟩)) (by kernel_rfl) (by kernel_rfl) ?_
                refine ql (.int .i64 r) (by kernel_rfl) (by kernel_rfl) ?_
                refine ql (.int .i64 kk) (by kernel_rfl) (by kernel_rfl) ?_
                refine qc (f := 28) (args := #[.pointer (some ⟨g7, 0, none⟩), .int .i64 r, .int .i64 kk]) (by kernel_rfl) (R_call #[.pointer (some ⟨g7, 0, none⟩), .int .i64 r, .int .i64 kk] Tryd.func28 (by kernel_rfl) (by kernel_rfl) (by kernel_rfl)) ?_
                by_cases h1 : kk ∈ rowL (clo Ls_) r
                · skip
                  have dh1 : decide (kk ∈ rowL (clo Ls_) r) = true := decide_eq_true h1
                  refine (mhas g7 cr9 (some ⟨a8, 0, none⟩) n rs22 (clo Ls_) r kk _ (Mr.of HS (i := 0) (j := 1) (m := 2) rfl rfl rfl) hR23 (by omega) (by omega)).mono ?_
                  rintro e W37 ⟨rfl, H_⟩
                  rw [dh1]
                  refine ⟨_, rfl, ?_⟩
                  replace HS : St W (owns []) W37 [blk g7 [.slice (some ⟨a8, 0, none⟩) rs22.length cr9, .int .i64 n] 87, row (some ⟨a8, 0, none⟩) rs22.length cr9 (cf cpt rs22) 32 1, many (rsE 77 74 n rs22)] := HS.join (F := []) (G := []) H_
                  clear H_
                  refine ql (.bool true) (by kernel_rfl) (by kernel_rfl) ?_
                  refine ql (.pointer (some ⟨g7, 0, none⟩)) (by kernel_rfl) (by kernel_rfl) ?_
                  refine ql (.int .i64 kk) (by kernel_rfl) (by kernel_rfl) ?_
                  refine ql (.int .i64 c) (by kernel_rfl) (by kernel_rfl) ?_
                  refine qc (f := 28) (args := #[.pointer (some ⟨g7, 0, none⟩), .int .i64 kk, .int .i64 c]) (by kernel_rfl) (R_call #[.pointer (some ⟨g7, 0, none⟩), .int .i64 kk, .int .i64 c] Tryd.func28 (by kernel_rfl) (by kernel_rfl) (by kernel_rfl)) ?_
                  by_cases h2 : c ∈ rowL (clo Ls_) kk
                  · skip
                    have dh2 : decide (c ∈ rowL (clo Ls_) kk) = true := decide_eq_true h2
                    refine (mhas g7 cr9 (some ⟨a8, 0, none⟩) n rs22 (clo Ls_) kk c _ (Mr.of HS (i := 0) (j := 1) (m := 2) rfl rfl rfl) hR23 (by omega) (by omega)).mono ?_
                    rintro e W38 ⟨rfl, H_⟩
                    rw [dh2]
                    refine ⟨_, rfl, ?_⟩
                    replace HS : St W (owns []) W38 [blk g7 [.slice (some ⟨a8, 0, none⟩) rs22.length cr9, .int .i64 n] 87, row (some ⟨a8, 0, none⟩) rs22.length cr9 (cf cpt rs22) 32 1, many (rsE 77 74 n rs22)] := HS.join (F := []) (G := []) H_
                    clear H_
                    refine ql (.bool true) (by kernel_rfl) (by kernel_rfl) ?_
                    refine ql (.bool true) (by kernel_rfl) (by kernel_rfl) ?_
                    refine ql (.pointer (some ⟨g7, 0, none⟩)) (by kernel_rfl) (by kernel_rfl) ?_
                    refine ql (.int .i64 r) (by kernel_rfl) (by kernel_rfl) ?_
                    refine ql (.int .i64 c) (by kernel_rfl) (by kernel_rfl) ?_
                    refine qc (f := 28) (args := #[.pointer (some ⟨g7, 0, none⟩), .int .i64 r, .int .i64 c]) (by kernel_rfl) (R_call #[.pointer (some ⟨g7, 0, none⟩), .int .i64 r, .int .i64 c] Tryd.func28 (by kernel_rfl) (by kernel_rfl) (by kernel_rfl)) ?_
                    refine (mhas g7 cr9 (some ⟨a8, 0, none⟩) n rs22 (clo Ls_) r c _ (Mr.of HS (i := 0) (j := 1) (m := 2) rfl rfl rfl) hR23 (by omega) (by omega)).mono ?_
                    rintro e W39 ⟨rfl, H_⟩
                    rw [decide_eq_true (clo_trn _ _ _ h1 h2)]
                    refine ⟨_, rfl, ?_⟩
                    replace HS : St W (owns []) W39 [blk g7 [.slice (some ⟨a8, 0, none⟩) rs22.length cr9, .int .i64 n] 87, row (some ⟨a8, 0, none⟩) rs22.length cr9 (cf cpt rs22) 32 1, many (rsE 77 74 n rs22)] := HS.join (F := []) (G := []) H_
                    clear H_
                    refine ql (.bool false) (by kernel_rfl) (by kernel_rfl) ?_
                    refine ql (.bool false) (by kernel_rfl) (by kernel_rfl) ?_
                    refine wpList_nil ?_
                    refine x_then ?_
                    refine wp_cond_false (by kernel_rfl) ?_
                    refine wp_skip ?_
                    refine x_inb ?_
                    refine x_then ?_
                    refine wp_region_lit ?_
                    refine ql (.int .i64 c) (by kernel_rfl) (by kernel_rfl) ?_
                    refine ql (.int .i64 (c + 1)) (by kernel_rfl) (R_int (by kernel_rfl) (w64 (by omega))) ?_
                    refine ql (.int .i64 (c + 1)) (by kernel_rfl) (by kernel_rfl) ?_
                    refine wpList_nil ?_
                    refine x_then ?_
                    exact ⟨n.toNat - (c + 1).toNat, by omega, (fun k_ : Nat => List.getD ((.int .i64 n) :: (.slice Al l.length cl) :: undef :: undef :: ((J33 4)) :: (.pointer (some ⟨g7, 0, none⟩)) :: (.int .i64 0) :: (.int .i64 k) :: (.int .i64 r) :: (.int .i64 kk) :: (.int .i64 (c + 1)) :: undef :: (.int .i64 n) :: (.bool false) :: (.bool false) :: (.int .i64 n) :: (.bool false) :: (.bool false) :: (.bool false) :: (.slice Al l.length cl) :: (.int .i64 (l.length : Int)) :: (.bool false) :: (.bool false) :: undef :: (.tuple #[.pointer (some ⟨g7, 0, none⟩), .int .i64 0]) :: (.int .i64 n) :: (.int .i64 n) :: (.tuple #[.pointer (some ⟨g7, 0, none⟩), .int .i64 0]) :: (.pointer (some ⟨g7, 0, none⟩)) :: (.int .i64 0) :: (.pointer (some ⟨g7, 0, none⟩)) :: (.bool false) :: (.bool false) :: (.int .i64 0) :: (.bool false) :: (.bool false) :: (.int .i64 k) :: (.slice Al l.length cl) :: (.int .i64 (l.length : Int)) :: (.bool false) :: ((J13 40)) :: ((J13 41)) :: ((J13 42)) :: ((J13 43)) :: ((J13 44)) :: ((J13 45)) :: ((J13 46)) :: ((J13 47)) :: ((J13 48)) :: ((J13 49)) :: ((J13 50)) :: ((J13 51)) :: ((J13 52)) :: ((J13 53)) :: (.pointer (some ⟨g7, 0, none⟩)) :: (.int .i64 ((cntL (clo Ls_) : Int) - (cntL Ls_ : Int))) :: (.int .i64 r) :: (.int .i64 n) :: (.bool true) :: ((J25 59)) :: ((J25 60)) :: (.int .i64 kk) :: (.int .i64 n) :: (.bool true) :: ((J29 64)) :: ((J29 65)) :: (.int .i64 c) :: (.int .i64 n) :: (.bool true) :: (.int .i64 c) :: (.int .i64 (c + 1)) :: (.pointer (some ⟨g7, 0, none⟩)) :: (.int .i64 r) :: (.int .i64 kk) :: (.bool true) :: (.bool true) :: (.pointer (some ⟨g7, 0, none⟩)) :: (.int .i64 kk) :: (.int .i64 c) :: (.bool true) :: (.bool true) :: (.bool true) :: (.pointer (some ⟨g7, 0, none⟩)) :: (.int .i64 r) :: (.int .i64 c) :: (.bool true) :: (.bool false) :: (.bool false) :: undef :: undef :: undef :: undef :: undef :: undef :: undef :: undef :: undef :: undef :: undef :: undef :: undef :: undef :: undef :: undef :: undef :: undef :: undef :: undef :: undef :: undef :: undef :: undef :: undef :: undef :: undef :: undef :: undef :: undef :: undef :: undef :: undef :: undef :: undef :: undef :: undef :: undef :: undef :: undef :: undef :: undef :: undef :: undef :: undef :: undef :: undef :: undef :: undef :: undef :: undef :: undef :: undef :: []) k_ undef), c + 1, congrArg Fr (by kernel_rfl), rfl, by omega, by omega, HS⟩
                  · skip
                    have dh2 : decide (c ∈ rowL (clo Ls_) kk) = false := decide_eq_false h2
                    refine (mhas g7 cr9 (some ⟨a8, 0, none⟩) n rs22 (clo Ls_) kk c _ (Mr.of HS (i := 0) (j := 1) (m := 2) rfl rfl rfl) hR23 (by omega) (by omega)).mono ?_
                    rintro e W40 ⟨rfl, H_⟩
                    rw [dh2]
                    refine ⟨_, rfl, ?_⟩
                    replace HS : St W (owns []) W40 [blk g7 [.slice (some ⟨a8, 0, none⟩) rs22.length cr9, .int .i64 n] 87, row (some ⟨a8, 0, none⟩) rs22.length cr9 (cf cpt rs22) 32 1, many (rsE 77 74 n rs22)] := HS.join (F := []) (G := []) H_
                    clear H_
                    refine ql (.bool false) (by kernel_rfl) (by kernel_rfl) ?_
                    refine ql (.bool false) (by kernel_rfl) (by kernel_rfl) ?_
                    refine qln (by kernel_rfl) ?_
                    refine qln (by kernel_rfl) ?_
                    refine qln (by kernel_rfl) ?_
                    refine qln (by kernel_rfl) ?_
                    refine qln (by kernel_rfl) ?_
                    refine ql (.bool false) (by kernel_rfl) (by kernel_rfl) ?_
                    refine wpList_nil ?_
                    refine x_then ?_
                    refine wp_cond_false (by kernel_rfl) ?_
                    refine wp_skip ?_
                    refine x_inb ?_
                    refine x_then ?_
                    refine wp_region_lit ?_
                    refine ql (.int .i64 c) (by kernel_rfl) (by kernel_rfl) ?_
                    refine ql (.int .i64 (c + 1)) (by kernel_rfl) (R_int (by kernel_rfl) (w64 (by omega))) ?_
                    refine ql (.int .i64 (c + 1)) (by kernel_rfl) (by kernel_rfl) ?_
                    refine wpList_nil ?_
                    refine x_then ?_
                    exact ⟨n.toNat - (c + 1).toNat, by omega, (fun k_ : Nat => List.getD ((.int .i64 n) :: (.slice Al l.length cl) :: undef :: undef :: ((J33 4)) :: (.pointer (some ⟨g7, 0, none⟩)) :: (.int .i64 0) :: (.int .i64 k) :: (.int .i64 r) :: (.int .i64 kk) :: (.int .i64 (c + 1)) :: undef :: (.int .i64 n) :: (.bool false) :: (.bool false) :: (.int .i64 n) :: (.bool false) :: (.bool false) :: (.bool false) :: (.slice Al l.length cl) :: (.int .i64 (l.length : Int)) :: (.bool false) :: (.bool false) :: undef :: (.tuple #[.pointer (some ⟨g7, 0, none⟩), .int .i64 0]) :: (.int .i64 n) :: (.int .i64 n) :: (.tuple #[.pointer (some ⟨g7, 0, none⟩), .int .i64 0]) :: (.pointer (some ⟨g7, 0, none⟩)) :: (.int .i64 0) :: (.pointer (some ⟨g7, 0, none⟩)) :: (.bool false) :: (.bool false) :: (.int .i64 0) :: (.bool false) :: (.bool false) :: (.int .i64 k) :: (.slice Al l.length cl) :: (.int .i64 (l.length : Int)) :: (.bool false) :: ((J13 40)) :: ((J13 41)) :: ((J13 42)) :: ((J13 43)) :: ((J13 44)) :: ((J13 45)) :: ((J13 46)) :: ((J13 47)) :: ((J13 48)) :: ((J13 49)) :: ((J13 50)) :: ((J13 51)) :: ((J13 52)) :: ((J13 53)) :: (.pointer (some ⟨g7, 0, none⟩)) :: (.int .i64 ((cntL (clo Ls_) : Int) - (cntL Ls_ : Int))) :: (.int .i64 r) :: (.int .i64 n) :: (.bool true) :: ((J25 59)) :: ((J25 60)) :: (.int .i64 kk) :: (.int .i64 n) :: (.bool true) :: ((J29 64)) :: ((J29 65)) :: (.int .i64 c) :: (.int .i64 n) :: (.bool true) :: (.int .i64 c) :: (.int .i64 (c + 1)) :: (.pointer (some ⟨g7, 0, none⟩)) :: (.int .i64 r) :: (.int .i64 kk) :: (.bool true) :: (.bool true) :: (.pointer (some ⟨g7, 0, none⟩)) :: (.int .i64 kk) :: (.int .i64 c) :: (.bool false) :: (.bool false) :: (.bool false) :: undef :: undef :: undef :: undef :: undef :: (.bool false) :: undef :: undef :: undef :: undef :: undef :: undef :: undef :: undef :: undef :: undef :: undef :: undef :: undef :: undef :: undef :: undef :: undef :: undef :: undef :: undef :: undef :: undef :: undef :: undef :: undef :: undef :: undef :: undef :: undef :: undef :: undef :: undef :: undef :: undef :: undef :: undef :: undef :: undef :: undef :: undef :: undef :: undef :: undef :: undef :: undef :: undef :: undef :: undef :: undef :: undef :: undef :: undef :: undef :: []) k_ undef), c + 1, congrArg Fr (by kernel_rfl), rfl, by omega, by omega, HS⟩
                · skip
                  have dh1 : decide (kk ∈ rowL (clo Ls_) r) = false := decide_eq_false h1
                  refine (mhas g7 cr9 (some ⟨a8, 0, none⟩) n rs22 (clo Ls_) r kk _ (Mr.of HS (i := 0) (j := 1) (m := 2) rfl rfl rfl) hR23 (by omega) (by omega)).mono ?_
                  rintro e W41 ⟨rfl, H_⟩
                  rw [dh1]
                  refine ⟨_, rfl, ?_⟩
                  replace HS : St W (owns []) W41 [blk g7 [.slice (some ⟨a8, 0, none⟩) rs22.length cr9, .int .i64 n] 87, row (some ⟨a8, 0, none⟩) rs22.length cr9 (cf cpt rs22) 32 1, many (rsE 77 74 n rs22)] := HS.join (F := []) (G := []) H_
                  clear H_
                  refine ql (.bool false) (by kernel_rfl) (by kernel_rfl) ?_
                  refine qln (by kernel_rfl) ?_
                  refine qln (by kernel_rfl) ?_
                  refine qln (by kernel_rfl) ?_
                  refine qln (by kernel_rfl) ?_
                  refine ql (.bool false) (by kernel_rfl) (by kernel_rfl) ?_
                  refine ql (.bool false) (by kernel_rfl) (by kernel_rfl) ?_
                  refine qln (by kernel_rfl) ?_
                  refine qln (by kernel_rfl) ?_
                  refine qln (by kernel_rfl) ?_
                  refine qln (by kernel_rfl) ?_
                  refine qln (by kernel_rfl) ?_
                  refine ql (.bool false) (by kernel_rfl) (by kernel_rfl) ?_
                  refine wpList_nil ?_
                  refine x_then ?_
                  refine wp_cond_false (by kernel_rfl) ?_
                  refine wp_skip ?_
                  refine x_inb ?_
                  refine x_then ?_
                  refine wp_region_lit ?_
                  refine ql (.int .i64 c) (by kernel_rfl) (by kernel_rfl) ?_
                  refine ql (.int .i64 (c + 1)) (by kernel_rfl) (R_int (by kernel_rfl) (w64 (by omega))) ?_
                  refine ql (.int .i64 (c + 1)) (by kernel_rfl) (by kernel_rfl) ?_
                  refine wpList_nil ?_
                  refine x_then ?_
                  exact ⟨n.toNat - (c + 1).toNat, by omega, (fun k_ : Nat => List.getD ((.int .i64 n) :: (.slice Al l.length cl) :: undef :: undef :: ((J33 4)) :: (.pointer (some ⟨g7, 0, none⟩)) :: (.int .i64 0) :: (.int .i64 k) :: (.int .i64 r) :: (.int .i64 kk) :: (.int .i64 (c + 1)) :: undef :: (.int .i64 n) :: (.bool false) :: (.bool false) :: (.int .i64 n) :: (.bool false) :: (.bool false) :: (.bool false) :: (.slice Al l.length cl) :: (.int .i64 (l.length : Int)) :: (.bool false) :: (.bool false) :: undef :: (.tuple #[.pointer (some ⟨g7, 0, none⟩), .int .i64 0]) :: (.int .i64 n) :: (.int .i64 n) :: (.tuple #[.pointer (some ⟨g7, 0, none⟩), .int .i64 0]) :: (.pointer (some ⟨g7, 0, none⟩)) :: (.int .i64 0) :: (.pointer (some ⟨g7, 0, none⟩)) :: (.bool false) :: (.bool false) :: (.int .i64 0) :: (.bool false) :: (.bool false) :: (.int .i64 k) :: (.slice Al l.length cl) :: (.int .i64 (l.length : Int)) :: (.bool false) :: ((J13 40)) :: ((J13 41)) :: ((J13 42)) :: ((J13 43)) :: ((J13 44)) :: ((J13 45)) :: ((J13 46)) :: ((J13 47)) :: ((J13 48)) :: ((J13 49)) :: ((J13 50)) :: ((J13 51)) :: ((J13 52)) :: ((J13 53)) :: (.pointer (some ⟨g7, 0, none⟩)) :: (.int .i64 ((cntL (clo Ls_) : Int) - (cntL Ls_ : Int))) :: (.int .i64 r) :: (.int .i64 n) :: (.bool true) :: ((J25 59)) :: ((J25 60)) :: (.int .i64 kk) :: (.int .i64 n) :: (.bool true) :: ((J29 64)) :: ((J29 65)) :: (.int .i64 c) :: (.int .i64 n) :: (.bool true) :: (.int .i64 c) :: (.int .i64 (c + 1)) :: (.pointer (some ⟨g7, 0, none⟩)) :: (.int .i64 r) :: (.int .i64 kk) :: (.bool false) :: (.bool false) :: undef :: undef :: undef :: undef :: (.bool false) :: (.bool false) :: undef :: undef :: undef :: undef :: undef :: (.bool false) :: undef :: undef :: undef :: undef :: undef :: undef :: undef :: undef :: undef :: undef :: undef :: undef :: undef :: undef :: undef :: undef :: undef :: undef :: undef :: undef :: undef :: undef :: undef :: undef :: undef :: undef :: undef :: undef :: undef :: undef :: undef :: undef :: undef :: undef :: undef :: undef :: undef :: undef :: undef :: undef :: undef :: undef :: undef :: undef :: undef :: undef :: undef :: undef :: undef :: undef :: undef :: undef :: undef :: []) k_ undef), c + 1, congrArg Fr (by kernel_rfl), rfl, by omega, by omega, HS⟩
              · skip
                refine ql (.bool false) (by kernel_rfl) (R_nbool (p := c < n) (by kernel_rfl) (hc36)) ?_
                refine wpList_nil ?_
                refine x_then ?_
                refine wp_cond_false (by kernel_rfl) ?_
                refine wp_exit ?_
                refine x_thenE ?_
                refine x_thenE ?_
                refine x_hit ?_
                refine x_inb ?_
                refine x_then ?_
                refine wp_region_lit ?_
                refine ql (.int .i64 kk) (by kernel_rfl) (by kernel_rfl) ?_
                refine ql (.int .i64 (kk + 1)) (by kernel_rfl) (R_int (by kernel_rfl) (w64 (by omega))) ?_
                refine ql (.int .i64 (kk + 1)) (by kernel_rfl) (by kernel_rfl) ?_
                refine wpList_nil ?_
                refine x_then ?_
                exact ⟨n.toNat - (kk + 1).toNat, by omega, (fun k_ : Nat => List.getD ((.int .i64 n) :: (.slice Al l.length cl) :: undef :: undef :: ((J33 4)) :: (.pointer (some ⟨g7, 0, none⟩)) :: (.int .i64 0) :: (.int .i64 k) :: (.int .i64 r) :: (.int .i64 (kk + 1)) :: (.int .i64 c) :: undef :: (.int .i64 n) :: (.bool false) :: (.bool false) :: (.int .i64 n) :: (.bool false) :: (.bool false) :: (.bool false) :: (.slice Al l.length cl) :: (.int .i64 (l.length : Int)) :: (.bool false) :: (.bool false) :: undef :: (.tuple #[.pointer (some ⟨g7, 0, none⟩), .int .i64 0]) :: (.int .i64 n) :: (.int .i64 n) :: (.tuple #[.pointer (some ⟨g7, 0, none⟩), .int .i64 0]) :: (.pointer (some ⟨g7, 0, none⟩)) :: (.int .i64 0) :: (.pointer (some ⟨g7, 0, none⟩)) :: (.bool false) :: (.bool false) :: (.int .i64 0) :: (.bool false) :: (.bool false) :: (.int .i64 k) :: (.slice Al l.length cl) :: (.int .i64 (l.length : Int)) :: (.bool false) :: ((J13 40)) :: ((J13 41)) :: ((J13 42)) :: ((J13 43)) :: ((J13 44)) :: ((J13 45)) :: ((J13 46)) :: ((J13 47)) :: ((J13 48)) :: ((J13 49)) :: ((J13 50)) :: ((J13 51)) :: ((J13 52)) :: ((J13 53)) :: (.pointer (some ⟨g7, 0, none⟩)) :: (.int .i64 ((cntL (clo Ls_) : Int) - (cntL Ls_ : Int))) :: (.int .i64 r) :: (.int .i64 n) :: (.bool true) :: ((J25 59)) :: ((J25 60)) :: (.int .i64 kk) :: (.int .i64 n) :: (.bool true) :: (.int .i64 kk) :: (.int .i64 (kk + 1)) :: (.int .i64 c) :: (.int .i64 n) :: (.bool false) :: ((J33 69)) :: ((J33 70)) :: ((J33 71)) :: ((J33 72)) :: ((J33 73)) :: ((J33 74)) :: ((J33 75)) :: ((J33 76)) :: ((J33 77)) :: ((J33 78)) :: ((J33 79)) :: ((J33 80)) :: ((J33 81)) :: ((J33 82)) :: ((J33 83)) :: ((J33 84)) :: ((J33 85)) :: ((J33 86)) :: ((J33 87)) :: undef :: undef :: undef :: undef :: undef :: undef :: undef :: undef :: undef :: undef :: undef :: undef :: undef :: undef :: undef :: undef :: undef :: undef :: undef :: undef :: undef :: undef :: undef :: undef :: undef :: undef :: undef :: undef :: undef :: undef :: undef :: undef :: undef :: undef :: undef :: undef :: undef :: undef :: undef :: undef :: undef :: undef :: undef :: undef :: undef :: undef :: undef :: undef :: undef :: undef :: undef :: undef :: undef :: []) k_ undef), kk + 1, congrArg Fr (by kernel_rfl), rfl, by omega, by omega, HS⟩
            · skip
              refine ql (.bool false) (by kernel_rfl) (R_nbool (p := kk < n) (by kernel_rfl) (hc32)) ?_
              refine wpList_nil ?_
              refine x_then ?_
              refine wp_cond_false (by kernel_rfl) ?_
              refine wp_exit ?_
              refine x_thenE ?_
              refine x_thenE ?_
              refine x_hit ?_
              refine x_inb ?_
              refine x_then ?_
              refine wp_region_lit ?_
              refine ql (.int .i64 r) (by kernel_rfl) (by kernel_rfl) ?_
              refine ql (.int .i64 (r + 1)) (by kernel_rfl) (R_int (by kernel_rfl) (w64 (by omega))) ?_
              refine ql (.int .i64 (r + 1)) (by kernel_rfl) (by kernel_rfl) ?_
              refine wpList_nil ?_
              refine x_then ?_
              exact ⟨n.toNat - (r + 1).toNat, by omega, (fun k_ : Nat => List.getD ((.int .i64 n) :: (.slice Al l.length cl) :: undef :: undef :: ((J29 4)) :: (.pointer (some ⟨g7, 0, none⟩)) :: (.int .i64 0) :: (.int .i64 k) :: (.int .i64 (r + 1)) :: (.int .i64 kk) :: ((J29 10)) :: undef :: (.int .i64 n) :: (.bool false) :: (.bool false) :: (.int .i64 n) :: (.bool false) :: (.bool false) :: (.bool false) :: (.slice Al l.length cl) :: (.int .i64 (l.length : Int)) :: (.bool false) :: (.bool false) :: undef :: (.tuple #[.pointer (some ⟨g7, 0, none⟩), .int .i64 0]) :: (.int .i64 n) :: (.int .i64 n) :: (.tuple #[.pointer (some ⟨g7, 0, none⟩), .int .i64 0]) :: (.pointer (some ⟨g7, 0, none⟩)) :: (.int .i64 0) :: (.pointer (some ⟨g7, 0, none⟩)) :: (.bool false) :: (.bool false) :: (.int .i64 0) :: (.bool false) :: (.bool false) :: (.int .i64 k) :: (.slice Al l.length cl) :: (.int .i64 (l.length : Int)) :: (.bool false) :: ((J13 40)) :: ((J13 41)) :: ((J13 42)) :: ((J13 43)) :: ((J13 44)) :: ((J13 45)) :: ((J13 46)) :: ((J13 47)) :: ((J13 48)) :: ((J13 49)) :: ((J13 50)) :: ((J13 51)) :: ((J13 52)) :: ((J13 53)) :: (.pointer (some ⟨g7, 0, none⟩)) :: (.int .i64 ((cntL (clo Ls_) : Int) - (cntL Ls_ : Int))) :: (.int .i64 r) :: (.int .i64 n) :: (.bool true) :: (.int .i64 r) :: (.int .i64 (r + 1)) :: (.int .i64 kk) :: (.int .i64 n) :: (.bool false) :: ((J29 64)) :: ((J29 65)) :: ((J29 66)) :: ((J29 67)) :: ((J29 68)) :: ((J29 69)) :: ((J29 70)) :: ((J29 71)) :: ((J29 72)) :: ((J29 73)) :: ((J29 74)) :: ((J29 75)) :: ((J29 76)) :: ((J29 77)) :: ((J29 78)) :: ((J29 79)) :: ((J29 80)) :: ((J29 81)) :: ((J29 82)) :: ((J29 83)) :: ((J29 84)) :: ((J29 85)) :: ((J29 86)) :: ((J29 87)) :: undef :: undef :: undef :: undef :: undef :: undef :: undef :: undef :: undef :: undef :: undef :: undef :: undef :: undef :: undef :: undef :: undef :: undef :: undef :: undef :: undef :: undef :: undef :: undef :: undef :: undef :: undef :: undef :: undef :: undef :: undef :: undef :: undef :: undef :: undef :: undef :: undef :: undef :: undef :: undef :: undef :: undef :: undef :: undef :: undef :: undef :: undef :: undef :: undef :: undef :: undef :: undef :: undef :: []) k_ undef), r + 1, congrArg Fr (by kernel_rfl), rfl, by omega, by omega, HS⟩
          · skip
            refine ql (.bool false) (by kernel_rfl) (R_nbool (p := r < n) (by kernel_rfl) (hc28)) ?_
            refine wpList_nil ?_
            refine x_then ?_
            refine wp_cond_false (by kernel_rfl) ?_
            refine wp_exit ?_
            refine x_thenE ?_
            refine x_thenE ?_
            refine x_hit ?_
            refine x_then ?_
            refine wp_seq ?_
            refine wp_region_lit ?_
            refine ql (.pointer none) (by kernel_rfl) (by kernel_rfl) ?_
            refine wpList_nil ?_
            refine x_then ?_
            refine wp_seq ?_
            refine wp_region_lit ?_
            refine ql (.pointer (some ⟨g7, 0, none⟩)) (by kernel_rfl) (by kernel_rfl) ?_
            refine qc (f := 37) (args := #[.pointer (some ⟨g7, 0, none⟩)]) (by kernel_rfl) (R_call #[.pointer (some ⟨g7, 0, none⟩)] Tryd.func37 (by kernel_rfl) (by kernel_rfl) (by kernel_rfl)) ?_
            refine (mclose g7 cr9 (some ⟨a8, 0, none⟩) n rs22 (clo Ls_) _ _ (St.focus (F := [blk g7 [.slice (some ⟨a8, 0, none⟩) rs22.length cr9, .int .i64 n] 87, row (some ⟨a8, 0, none⟩) rs22.length cr9 (cf cpt rs22) 32 1, many (rsE 77 74 n rs22)]) HS) hR23 (by omega) (by omega) (by omega)).mono ?_
            rintro e W44 ⟨rs42, rfl, H_, hR43, hlrs42⟩
            rw [show ((cntL (clo (clo Ls_)) : Int) - (cntL (clo Ls_) : Int)) = 0 by rw [clo_clo]; omega]
            refine ⟨_, rfl, ?_⟩
            replace HS : St W (owns []) W44 [blk g7 [.slice (some ⟨a8, 0, none⟩) rs42.length cr9, .int .i64 n] 87, row (some ⟨a8, 0, none⟩) rs42.length cr9 (cf cpt rs42) 32 1, many (rsE 77 74 n rs42)] := HS.join (F := [blk g7 [.slice (some ⟨a8, 0, none⟩) rs22.length cr9, .int .i64 n] 87, row (some ⟨a8, 0, none⟩) rs22.length cr9 (cf cpt rs22) 32 1, many (rsE 77 74 n rs22)]) (G := [blk g7 [.slice (some ⟨a8, 0, none⟩) rs42.length cr9, .int .i64 n] 87, row (some ⟨a8, 0, none⟩) rs42.length cr9 (cf cpt rs42) 32 1, many (rsE 77 74 n rs42)]) H_
            clear H_
            refine ql (.bool true) (by kernel_rfl) (R_beq (b := ((0 : Int) == 0)) (by kernel_rfl) (by decide)) ?_
            refine ql (.bool true) (by kernel_rfl) (by kernel_rfl) ?_
            refine ql (.pointer none) (by kernel_rfl) (by kernel_rfl) ?_
            refine qc (f := 26) (args := #[.pointer none]) (by kernel_rfl) (R_call #[.pointer none] Tryd.func26 (by kernel_rfl) (by kernel_rfl) (by kernel_rfl)) ?_
            refine (mrows_nil _).mono ?_
            rintro e W45 ⟨rfl, H_⟩
            refine ⟨_, rfl, ?_⟩
            replace HS : St W (owns []) W45 [blk g7 [.slice (some ⟨a8, 0, none⟩) rs42.length cr9, .int .i64 n] 87, row (some ⟨a8, 0, none⟩) rs42.length cr9 (cf cpt rs42) 32 1, many (rsE 77 74 n rs42)] := HS.join (F := []) (G := []) H_
            clear H_
            refine ql (.bool true) (by kernel_rfl) (R_beq (b := ((0 : Int) == 0)) (by kernel_rfl) (by decide)) ?_
            refine ql (.bool true) (by kernel_rfl) (by kernel_rfl) ?_
            refine ql (.bool true) (by kernel_rfl) (by kernel_rfl) ?_
            refine ql (.pointer none) (by kernel_rfl) (by kernel_rfl) ?_
            refine qc (f := 27) (args := #[.pointer none]) (by kernel_rfl) (R_call #[.pointer none] Tryd.func27 (by kernel_rfl) (by kernel_rfl) (by kernel_rfl)) ?_
            refine (mcols_nil _).mono ?_
            rintro e W46 ⟨rfl, H_⟩
            refine ⟨_, rfl, ?_⟩
            replace HS : St W (owns []) W46 [blk g7 [.slice (some ⟨a8, 0, none⟩) rs42.length cr9, .int .i64 n] 87, row (some ⟨a8, 0, none⟩) rs42.length cr9 (cf cpt rs42) 32 1, many (rsE 77 74 n rs42)] := HS.join (F := []) (G := []) H_
            clear H_
            refine ql (.bool true) (by kernel_rfl) (R_beq (b := ((0 : Int) == 0)) (by kernel_rfl) (by decide)) ?_
            refine ql (.bool true) (by kernel_rfl) (by kernel_rfl) ?_
            refine ql (.bool true) (by kernel_rfl) (by kernel_rfl) ?_
            refine ql (.pointer none) (by kernel_rfl) (by kernel_rfl) ?_
            refine qc (f := 28) (args := #[.pointer none, .int .i64 0, .int .i64 0]) (by kernel_rfl) (R_call #[.pointer none, .int .i64 0, .int .i64 0] Tryd.func28 (by kernel_rfl) (by kernel_rfl) (by kernel_rfl)) ?_
            refine (mhas_nil _ _ _).mono ?_
            rintro e W47 ⟨rfl, H_⟩
            refine ⟨_, rfl, ?_⟩
            replace HS : St W (owns []) W47 [blk g7 [.slice (some ⟨a8, 0, none⟩) rs42.length cr9, .int .i64 n] 87, row (some ⟨a8, 0, none⟩) rs42.length cr9 (cf cpt rs42) 32 1, many (rsE 77 74 n rs42)] := HS.join (F := []) (G := []) H_
            clear H_
            refine ql (.bool true) (by kernel_rfl) (by kernel_rfl) ?_
            refine ql (.bool true) (by kernel_rfl) (by kernel_rfl) ?_
            refine ql (.bool true) (by kernel_rfl) (by kernel_rfl) ?_
            refine ql (.pointer none) (by kernel_rfl) (by kernel_rfl) ?_
            refine qc (f := 36) (args := #[.pointer none, .int .i64 0, .int .i64 0]) (by kernel_rfl) (R_call #[.pointer none, .int .i64 0, .int .i64 0] Tryd.func36 (by kernel_rfl) (by kernel_rfl) (by kernel_rfl)) ?_
            refine (madd_nil _ _ _).mono ?_
            rintro e W48 ⟨rfl, H_⟩
            refine ⟨_, rfl, ?_⟩
            replace HS : St W (owns []) W48 [blk g7 [.slice (some ⟨a8, 0, none⟩) rs42.length cr9, .int .i64 n] 87, row (some ⟨a8, 0, none⟩) rs42.length cr9 (cf cpt rs42) 32 1, many (rsE 77 74 n rs42)] := HS.join (F := []) (G := []) H_
            clear H_
            refine ql (.bool true) (by kernel_rfl) (by kernel_rfl) ?_
            refine ql (.bool true) (by kernel_rfl) (by kernel_rfl) ?_
            refine ql (.bool true) (by kernel_rfl) (by kernel_rfl) ?_
            refine ql (.pointer none) (by kernel_rfl) (by kernel_rfl) ?_
            refine qc (f := 38) (args := #[.pointer none, .int .i64 0, .int .i64 0]) (by kernel_rfl) (R_call #[.pointer none, .int .i64 0, .int .i64 0] Tryd.func38 (by kernel_rfl) (by kernel_rfl) (by kernel_rfl)) ?_
            refine (mor_nil _ _ _).mono ?_
            rintro e W49 ⟨rfl, H_⟩
            refine ⟨_, rfl, ?_⟩
            replace HS : St W (owns []) W49 [blk g7 [.slice (some ⟨a8, 0, none⟩) rs42.length cr9, .int .i64 n] 87, row (some ⟨a8, 0, none⟩) rs42.length cr9 (cf cpt rs42) 32 1, many (rsE 77 74 n rs42)] := HS.join (F := []) (G := []) H_
            clear H_
            refine ql (.bool true) (by kernel_rfl) (by kernel_rfl) ?_
            refine ql (.bool true) (by kernel_rfl) (by kernel_rfl) ?_
            refine ql (.bool true) (by kernel_rfl) (by kernel_rfl) ?_
            refine ql (.pointer none) (by kernel_rfl) (by kernel_rfl) ?_
            refine qc (f := 30) (args := #[.pointer none]) (by kernel_rfl) (R_call #[.pointer none] Tryd.func30 (by kernel_rfl) (by kernel_rfl) (by kernel_rfl)) ?_
            refine (mcount_nil _).mono ?_
            rintro e W50 ⟨rfl, H_⟩
            refine ⟨_, rfl, ?_⟩
            replace HS : St W (owns []) W50 [blk g7 [.slice (some ⟨a8, 0, none⟩) rs42.length cr9, .int .i64 n] 87, row (some ⟨a8, 0, none⟩) rs42.length cr9 (cf cpt rs42) 32 1, many (rsE 77 74 n rs42)] := HS.join (F := []) (G := []) H_
            clear H_
            refine ql (.bool true) (by kernel_rfl) (R_beq (b := ((0 : Int) == 0)) (by kernel_rfl) (by decide)) ?_
            refine ql (.bool true) (by kernel_rfl) (by kernel_rfl) ?_
            refine ql (.bool true) (by kernel_rfl) (by kernel_rfl) ?_
            refine ql (.pointer none) (by kernel_rfl) (by kernel_rfl) ?_
            refine qc (f := 37) (args := #[.pointer none]) (by kernel_rfl) (R_call #[.pointer none] Tryd.func37 (by kernel_rfl) (by kernel_rfl) (by kernel_rfl)) ?_
            refine (mclose_nil _).mono ?_
            rintro e W51 ⟨rfl, H_⟩
            refine ⟨_, rfl, ?_⟩
            replace HS : St W (owns []) W51 [blk g7 [.slice (some ⟨a8, 0, none⟩) rs42.length cr9, .int .i64 n] 87, row (some ⟨a8, 0, none⟩) rs42.length cr9 (cf cpt rs42) 32 1, many (rsE 77 74 n rs42)] := HS.join (F := []) (G := []) H_
            clear H_
            refine ql (.bool true) (by kernel_rfl) (R_beq (b := ((0 : Int) == 0)) (by kernel_rfl) (by decide)) ?_
            refine ql (.bool true) (by kernel_rfl) (by kernel_rfl) ?_
            refine ql (.bool true) (by kernel_rfl) (by kernel_rfl) ?_
            refine ql (.pointer none) (by kernel_rfl) (by kernel_rfl) ?_
            refine qc (f := 32) (args := #[.pointer none, .int .i64 0]) (by kernel_rfl) (R_call #[.pointer none, .int .i64 0] Tryd.func32 (by kernel_rfl) (by kernel_rfl) (by kernel_rfl)) ?_
            refine (mlist_nil _ _).mono ?_
            rintro e W54 ⟨A52, c53, rfl, H_⟩
            refine ⟨_, rfl, ?_⟩
            replace HS : St W (owns []) W54 [row A52 0 c53 (ci .i64 ([])) 3 1, blk g7 [.slice (some ⟨a8, 0, none⟩) rs42.length cr9, .int .i64 n] 87, row (some ⟨a8, 0, none⟩) rs42.length cr9 (cf cpt rs42) 32 1, many (rsE 77 74 n rs42)] := HS.join (F := []) (G := [row A52 0 c53 (ci .i64 ([])) 3 1]) H_
            clear H_
            refine ql (.int .i64 0) (by kernel_rfl) (by kernel_rfl) ?_
            refine ql (.bool true) (by kernel_rfl) (R_beq (b := ((0 : Int) == 0)) (by kernel_rfl) (by decide)) ?_
            refine ql (.bool true) (by kernel_rfl) (by kernel_rfl) ?_
            refine ql (.bool true) (by kernel_rfl) (by kernel_rfl) ?_
            refine ql (.pointer none) (by kernel_rfl) (by kernel_rfl) ?_
            refine qc (f := 34) (args := #[.pointer none, .int .i64 0]) (by kernel_rfl) (R_call #[.pointer none, .int .i64 0] Tryd.func34 (by kernel_rfl) (by kernel_rfl) (by kernel_rfl)) ?_
            refine (mcol_nil _ _).mono ?_
            rintro e W55 ⟨rfl, H_⟩
            refine ⟨_, rfl, ?_⟩
            replace HS : St W (owns []) W55 [row A52 0 c53 (ci .i64 ([])) 3 1, blk g7 [.slice (some ⟨a8, 0, none⟩) rs42.length cr9, .int .i64 n] 87, row (some ⟨a8, 0, none⟩) rs42.length cr9 (cf cpt rs42) 32 1, many (rsE 77 74 n rs42)] := HS.join (F := []) (G := []) H_
            clear H_
            refine ql (.int .i64 0) (by kernel_rfl) (by kernel_rfl) ?_
            refine ql (.bool true) (by kernel_rfl) (R_beq (b := ((0 : Int) == 0)) (by kernel_rfl) (by decide)) ?_
            refine ql (.bool true) (by kernel_rfl) (by kernel_rfl) ?_
            refine ql (.bool true) (by kernel_rfl) (by kernel_rfl) ?_
            refine qc (f := 23) (args := #[]) (by kernel_rfl) (R_call #[] Tryd.func23 (by kernel_rfl) (by kernel_rfl) (by kernel_rfl)) ?_
            refine (mawake _).mono ?_
            rintro e W56 ⟨rfl, H_⟩
            refine ⟨_, rfl, ?_⟩
            replace HS : St W (owns []) W56 [row A52 0 c53 (ci .i64 ([])) 3 1, blk g7 [.slice (some ⟨a8, 0, none⟩) rs42.length cr9, .int .i64 n] 87, row (some ⟨a8, 0, none⟩) rs42.length cr9 (cf cpt rs42) 32 1, many (rsE 77 74 n rs42)] := HS.join (F := []) (G := []) H_
            clear H_
            refine ql (.bool true) (by kernel_rfl) (by kernel_rfl) ?_
            refine ql (.bool true) (by kernel_rfl) (by kernel_rfl) ?_
            refine wpList_nil ?_
            refine x_then ?_
            refine wp_ret ?_
            refine ret_ (.bool true) (by kernel_rfl) ?_
            replace HS := HS.drop1
            replace HS := HS.drop1
            replace HS := HS.drop1
            replace HS := HS.drop1
            exact ⟨rfl, HS⟩

end Go.Proofs.YtgoapobflajliaaDoor
