/- Written for this claim by gp.py, a program of this session's, over the kit's print. Lean checks it. -/
import Derived.Test.YthfpdpjccnnlhaaGBfsTellsx0
import Derived.Test.YthfpdpjccnnlhaaGBfsTellshhp1
import Derived.Test.YthfpdpjccnnlhaaGBfsTellshhp2
import Derived.Test.YthfpdpjccnnlhaaGBfsTellshgp
import Derived.Test.YthfpdpjccnnlhaaGBfsTellshg5
import Derived.Test.YthfpdpjccnnlhaaGBfsTellshg6
import Derived.Test.YthfpdpjccnnlhaaGBfsTellshhp3
import Derived.Test.YthfpdpjccnnlhaaGBfsTellshb1a
import Derived.Test.YthfpdpjccnnlhaaGBfsTellshb3
import Derived.Test.YthfpdpjccnnlhaaGBfsTellshb4
import Derived.WalkKit
import Derived.StillTailTactics
import Derived.Deep.LoopGhost
import Derived.KernelRfl
import Derived.Deep.OwnRows
import Derived.Laws.OwnMore
import Derived.Laws.MakeOwn
import Derived.Maps.AppendAt
import Derived.OrdersHeld
namespace Go.Proofs.Ythfpdpjccnnlhaa.GBfsTells
open Go.RowKit Go.Proofs.YthfpdpjccnnlhaaW.PrintWords Go.Proofs.YthfpdpjccnnlhaaW.PrintLast Go.Proofs.YthfpdpjccnnlhaaW.PrintMore
attribute [local go_sem] max2_int min2_int max_two min_two max_three min_three max_four min_four   -- for this text's walks alone
set_option linter.unusedVariables false
set_option linter.unusedSimpArgs false

--import Derived.WalkKit
--import Derived.StillTailTactics
--import Derived.Deep.LoopGhost
--import Derived.KernelRfl
--import Derived.Deep.OwnRows
--import Derived.Laws.OwnMore
--import Derived.Laws.MakeOwn
--import Derived.Maps.AppendAt
--import Derived.OrdersHeld
attribute [local irreducible] wpStill wpList Code.wp TA

theorem layr_le2 (ds : List Int) (d : Int) : (layr ds d ds.length).length ≤ ds.length := layr_le ds d ds.length

set_option maxRecDepth 100000 in
set_option maxHeartbeats 1000000 in
theorem BfsTells_walk (n v d no : Int) (A : Option Addr) (c : Nat) (arcs : List (Int × Int)) (W : World) (hr : Rd W A (cf arcC arcs)) : Calls Try.prog 7 #[.int .i64 n, .slice A arcs.length c, .int .i64 v, .int .i64 d, .int .i64 no] W fun e W' => e = .returned (.bool true) ∧ St W (owns []) W' [] := by
  have HS : St W (owns []) W [] := St.start W _
  refine calls_enter ((.int .i64 n) :: (.slice A arcs.length c) :: (.int .i64 v) :: (.int .i64 d) :: (.int .i64 no) :: undef :: undef :: undef :: undef :: undef :: undef :: undef :: undef :: undef :: undef :: undef :: undef :: undef :: undef :: undef :: undef :: undef :: undef :: undef :: undef :: undef :: undef :: undef :: undef :: undef :: undef :: undef :: undef :: undef :: undef :: undef :: undef :: undef :: undef :: undef :: undef :: undef :: undef :: undef :: undef :: undef :: undef :: undef :: undef :: undef :: undef :: undef :: undef :: undef :: undef :: undef :: undef :: undef :: undef :: undef :: undef :: undef :: undef :: undef :: undef :: undef :: undef :: undef :: undef :: undef :: undef :: undef :: undef :: undef :: undef :: undef :: undef :: undef :: undef :: undef :: undef :: undef :: undef :: undef :: undef :: undef :: undef :: undef :: undef :: undef :: undef :: undef :: undef :: undef :: undef :: undef :: undef :: undef :: undef :: undef :: undef :: undef :: undef :: undef :: undef :: undef :: undef :: undef :: undef :: undef :: undef :: undef :: undef :: undef :: undef :: undef :: undef :: undef :: undef :: undef :: undef :: undef :: undef :: undef :: undef :: undef :: undef :: undef :: undef :: undef :: undef :: undef :: undef :: undef :: undef :: undef :: undef :: undef :: undef :: undef :: undef :: undef :: undef :: undef :: undef :: undef :: undef :: undef :: undef :: undef :: undef :: undef :: undef :: undef :: undef :: undef :: undef :: undef :: undef :: undef :: undef :: undef :: undef :: undef :: undef :: []) Try.func7 rfl (by kernel_rfl) ?_
  refine wp_seq ?_
  refine wp_region_lit ?_
  refine ql (.bool false) (by kernel_rfl) (by kernel_rfl) ?_
  refine wpList_nil ?_
  refine x_then ?_
  refine wp_seq ?_
  refine wp_seq ?_
  refine wp_region_lit ?_
  refine ql (.int .i64 n) (by kernel_rfl) (by kernel_rfl) ?_
  by_cases hc1 : n > (16 : Int)
  · skip
    refine ql (.bool true) (by kernel_rfl) (R_bool (p := n > (16 : Int)) (by kernel_rfl) (hc1)) ?_
    refine ql (.bool true) (by kernel_rfl) (by kernel_rfl) ?_
    refine qln (by kernel_rfl) ?_
    refine qln (by kernel_rfl) ?_
    refine qln (by kernel_rfl) ?_
    refine ql (.bool true) (by kernel_rfl) (by kernel_rfl) ?_
    refine wpList_nil ?_
    refine x_then ?_
    refine wp_cond_true (by kernel_rfl) ?_
    refine wp_seq ?_
    refine wp_region_lit ?_
    refine qc (f := 29) (args := #[]) (by kernel_rfl) (R_call #[] Try.func29 (by kernel_rfl) (by kernel_rfl) (by kernel_rfl)) ?_
    refine (awake13 _).mono ?_
    rintro e W2 ⟨rfl, H_⟩
    refine ⟨_, rfl, ?_⟩
    replace HS : St W (owns []) W2 [] := HS.join (F := []) (G := []) H_
    clear H_
    refine ql (.bool true) (by kernel_rfl) (by kernel_rfl) ?_
    refine wpList_nil ?_
    refine x_then ?_
    refine wp_ret ?_
    refine x_thenR ?_
    refine ret_ (.bool true) (by kernel_rfl) ?_
    exact ⟨rfl, HS.tail (F := [])⟩
  · skip
    refine ql (.bool false) (by kernel_rfl) (R_nbool (p := n > (16 : Int)) (by kernel_rfl) (hc1)) ?_
    refine ql (.bool false) (by kernel_rfl) (by kernel_rfl) ?_
    refine ql (.slice A arcs.length c) (by kernel_rfl) (by kernel_rfl) ?_
    refine ql (.int .i64 (arcs.length : Int)) (by kernel_rfl) (by kernel_rfl) ?_
    by_cases hc3 : (arcs.length : Int) > (40 : Int)
    · skip
      refine ql (.bool true) (by kernel_rfl) (R_bool (p := (arcs.length : Int) > (40 : Int)) (by kernel_rfl) (hc3)) ?_
      refine ql (.bool true) (by kernel_rfl) (by kernel_rfl) ?_
      refine wpList_nil ?_
      refine x_then ?_
      refine wp_cond_true (by kernel_rfl) ?_
      refine wp_seq ?_
      refine wp_region_lit ?_
      refine qc (f := 29) (args := #[]) (by kernel_rfl) (R_call #[] Try.func29 (by kernel_rfl) (by kernel_rfl) (by kernel_rfl)) ?_
      refine (awake13 _).mono ?_
      rintro e W4 ⟨rfl, H_⟩
      refine ⟨_, rfl, ?_⟩
      replace HS : St W (owns []) W4 [] := HS.join (F := []) (G := []) H_
      clear H_
      refine ql (.bool true) (by kernel_rfl) (by kernel_rfl) ?_
      refine wpList_nil ?_
      refine x_then ?_
      refine wp_ret ?_
      refine x_thenR ?_
      refine ret_ (.bool true) (by kernel_rfl) ?_
      exact ⟨rfl, HS.tail (F := [])⟩
    · skip
      refine ql (.bool false) (by kernel_rfl) (R_nbool (p := (arcs.length : Int) > (40 : Int)) (by kernel_rfl) (hc3)) ?_
      refine ql (.bool false) (by kernel_rfl) (by kernel_rfl) ?_
      refine wpList_nil ?_
      refine x_then ?_
      refine wp_cond_false (by kernel_rfl) ?_
      refine wp_skip ?_
      refine x_then ?_
      refine wp_seq ?_
      refine wp_region_lit ?_
      refine ql (.int .i64 n) (by kernel_rfl) (by kernel_rfl) ?_
      refine ql (.slice A arcs.length c) (by kernel_rfl) (by kernel_rfl) ?_
      refine qc (f := 13) (args := #[.int .i64 n, .slice A arcs.length c]) (by kernel_rfl) (R_call #[.int .i64 n, .slice A arcs.length c] Try.func13 (by kernel_rfl) (by kernel_rfl) (by kernel_rfl)) ?_
      refine (of_calls n _ _ arcs _ (hr.old0 HS) (by first | omega | (rw [List.length_map]; omega))).mono ?_
      rintro e W5 (⟨hc, g, N, rfl, rfl, H_, hG⟩ | ⟨hc, rfl, H_⟩)
      · refine ⟨_, rfl, ?_⟩
        replace HS : St W (owns []) W5 [] := HS.join (F := []) (G := []) H_
        clear H_
        have HB6 := HS
        replace hr := hr.below (HB6.kept.below owns_nil)
        clear HS
        have HS : St W5 (owns []) W5 [] := St.start _ _
        have hFF := hG.fine
        refine ql (.tuple #[.pointer (some ⟨g, 0, none⟩), .int .i64 0]) (by kernel_rfl) (by kernel_rfl) ?_
        refine ql (.pointer (some ⟨g, 0, none⟩)) (by kernel_rfl) (by kernel_rfl) ?_
        refine ql (.int .i64 0) (by kernel_rfl) (by kernel_rfl) ?_
        refine ql (.pointer (some ⟨g, 0, none⟩)) (by kernel_rfl) (by kernel_rfl) ?_
        refine ql (.int .i64 0) (by kernel_rfl) (by kernel_rfl) ?_
        refine wpList_nil ?_
        refine x_then ?_
        refine wp_seq ?_
        refine wp_seq ?_
        refine wp_region_lit ?_
        refine ql (.int .i64 0) (by kernel_rfl) (by kernel_rfl) ?_
        refine ql (.bool false) (by kernel_rfl) (R_beq (b := ((0 : Int) != 0)) (by kernel_rfl) (by decide)) ?_
        refine wpList_nil ?_
        refine x_then ?_
        refine wp_cond_false (by kernel_rfl) ?_
        refine wp_skip ?_
        refine x_then ?_
        refine wp_seq ?_
        refine wp_region_lit ?_
        refine kb HS [.int .i64 0, .int .i64 0, .int .i64 0, .int .i64 0, .int .i64 0, .int .i64 0, .int .i64 0] 51 (fun g => .pointer (some ⟨g, 0, none⟩)) (by kernel_rfl) (by kernel_rfl) ?_
        intro g7 W8 H_
        replace HS : St W5 (owns []) W8 [blk g7 [.int .i64 0, .int .i64 0, .int .i64 0, .int .i64 0, .int .i64 0, .int .i64 0, .int .i64 0] 51] := H_
        clear H_
        refine wpList_nil ?_
        refine x_then ?_
        refine wp_seq ?_
        refine wp_region_lit ?_
        refine ql (.pointer (some ⟨g, 0, none⟩)) (by kernel_rfl) (by kernel_rfl) ?_
        refine ql (.int .i64 v) (by kernel_rfl) (by kernel_rfl) ?_
        refine qc (f := 30) (args := #[.pointer (some ⟨g, 0, none⟩), .int .i64 v, .pointer (some ⟨g7, 0, none⟩)]) (by kernel_rfl) (R_call #[.pointer (some ⟨g, 0, none⟩), .int .i64 v, .pointer (some ⟨g7, 0, none⟩)] Try.func30 (by kernel_rfl) (by kernel_rfl) (by kernel_rfl)) ?_
        refine (fromC g N arcs v g7 51 0 W5 _ hG (HS.kept.below owns_nil) (St.newge HS (i := 0) rfl rfl) (St.focus (F := [blk g7 [.int .i64 0, .int .i64 0, .int .i64 0, .int .i64 0, .int .i64 0, .int .i64 0, .int .i64 0] 51]) HS) (by omega) (by omega) (by omega) (by omega)).mono ?_
        rintro e W13 ⟨t9, ds11, bs12, k, rfl, H_, hTh10, hDh10, hKh10, hk⟩
        refine ⟨_, rfl, ?_⟩
        replace HS : St W5 (owns []) W13 [blk g7 [.int .i64 0, .int .i64 0, .int .i64 0, .int .i64 0, .int .i64 0, .int .i64 0, .int .i64 (0 + ((k : Nat) : Int))] 51] := HS.join (F := [blk g7 [.int .i64 0, .int .i64 0, .int .i64 0, .int .i64 0, .int .i64 0, .int .i64 0, .int .i64 0] 51]) (G := [blk g7 [.int .i64 0, .int .i64 0, .int .i64 0, .int .i64 0, .int .i64 0, .int .i64 0, .int .i64 (0 + ((k : Nat) : Int))] 51]) H_
        clear H_
        have hc := Rd.ofBlk HS (i := 0) rfl
        have HB14 := HS
        replace hr := hr.below (HB14.kept.below owns_nil)
        replace hG := hG.below (HB14.kept.below owns_nil)
        clear HS
        have HS : St W13 (owns []) W13 [] := St.start _ _
        refine ql (.pointer (some ⟨t9, 0, none⟩)) (by kernel_rfl) (by kernel_rfl) ?_
        refine wpList_nil ?_
        refine x_then ?_
        refine wp_seq ?_
        refine wp_region_lit ?_
        refine ql (.int .i64 (N : Int)) (by kernel_rfl) (by kernel_rfl) ?_
        refine ql (.slice A arcs.length c) (by kernel_rfl) (by kernel_rfl) ?_
        refine ql (.int .i64 v) (by kernel_rfl) (by kernel_rfl) ?_
        refine qc (f := 33) (args := #[.int .i64 (N : Int), .slice A arcs.length c, .int .i64 v]) (by kernel_rfl) (R_call #[.int .i64 (N : Int), .slice A arcs.length c, .int .i64 v] Try.func33 (by kernel_rfl) (by kernel_rfl) (by kernel_rfl)) ?_
        refine (rdist N _ _ arcs _ (hr.old0 HS) (by omega) v hFF (by omega) ds11 hDh10).mono ?_
        rintro e W17 ⟨A15, c16, rfl, H_⟩
        refine ⟨_, rfl, ?_⟩
        replace HS : St W13 (owns []) W17 [row A15 ds11.length c16 (ci .i64 ds11) 3 1] := HS.join (F := []) (G := [row A15 ds11.length c16 (ci .i64 ds11) 3 1]) H_
        clear H_
        have hdl := hDh10.ld
        have HB18 := HS
        replace hr := hr.below (HB18.kept.below owns_nil)
        replace hG := hG.below (HB18.kept.below owns_nil)
        replace hc := hc.below (HB18.kept.below owns_nil)
        replace hTh10 := hTh10.below (HB18.kept.below owns_nil)
        have hr19 := Rd.row HB18 (i := 0) rfl
        clear HS
        have HS : St W17 (owns []) W17 [] := St.start _ _
        refine ql (.slice A15 ds11.length c16) (by kernel_rfl) (by kernel_rfl) ?_
        refine wpList_nil ?_
        refine x_then ?_
        refine wp_seq ?_
        refine wp_region_lit ?_
        refine ql (.int .i64 (-1)) (by kernel_rfl) (by kernel_rfl) ?_
        refine wpList_nil ?_
        refine x_then ?_
        refine wp_seq ?_
        refine wp_seq ?_
        refine wp_region_lit ?_
        refine ql (.int .i64 0) (by kernel_rfl) (by kernel_rfl) ?_
        refine wpList_nil ?_
        refine x_then ?_
        refine wp_block ?_
        refine wp_loop_ghost (fun kq a' w' => ∃ (J20 : Nat → Value) (w : Int) (m : Int) , a' = Fr ((.int .i64 (N : Int)) :: (.slice A arcs.length c) :: (.int .i64 v) :: (.int .i64 d) :: (.int .i64 no) :: undef :: undef :: undef :: undef :: undef :: ((J20 10)) :: (.pointer (some ⟨g, 0, none⟩)) :: (.int .i64 0) :: undef :: (.pointer (some ⟨g7, 0, none⟩)) :: (.pointer (some ⟨t9, 0, none⟩)) :: (.slice A15 ds11.length c16) :: (.int .i64 m) :: (.int .i64 w) :: undef :: (.int .i64 (N : Int)) :: (.bool false) :: (.bool false) :: (.slice A arcs.length c) :: (.int .i64 (arcs.length : Int)) :: (.bool false) :: (.bool false) :: undef :: (.tuple #[.pointer (some ⟨g, 0, none⟩), .int .i64 0]) :: (.int .i64 (N : Int)) :: (.slice A arcs.length c) :: (.tuple #[.pointer (some ⟨g, 0, none⟩), .int .i64 0]) :: (.pointer (some ⟨g, 0, none⟩)) :: (.int .i64 0) :: (.int .i64 0) :: (.bool false) :: undef :: undef :: undef :: undef :: undef :: undef :: undef :: undef :: undef :: undef :: undef :: undef :: undef :: undef :: undef :: (.pointer (some ⟨g, 0, none⟩)) :: (.int .i64 v) :: (.pointer (some ⟨t9, 0, none⟩)) :: (.int .i64 (N : Int)) :: (.slice A arcs.length c) :: (.int .i64 v) :: (.slice A15 ds11.length c16) :: ((J20 58)) :: ((J20 59)) :: ((J20 60)) :: ((J20 61)) :: ((J20 62)) :: ((J20 63)) :: ((J20 64)) :: ((J20 65)) :: ((J20 66)) :: ((J20 67)) :: ((J20 68)) :: ((J20 69)) :: ((J20 70)) :: ((J20 71)) :: ((J20 72)) :: ((J20 73)) :: ((J20 74)) :: ((J20 75)) :: ((J20 76)) :: ((J20 77)) :: ((J20 78)) :: ((J20 79)) :: ((J20 80)) :: ((J20 81)) :: ((J20 82)) :: ((J20 83)) :: ((J20 84)) :: ((J20 85)) :: ((J20 86)) :: ((J20 87)) :: ((J20 88)) :: ((J20 89)) :: ((J20 90)) :: undef :: undef :: undef :: undef :: undef :: undef :: undef :: undef :: undef :: undef :: undef :: undef :: undef :: undef :: undef :: undef :: undef :: undef :: undef :: undef :: undef :: undef :: undef :: undef :: undef :: undef :: undef :: undef :: undef :: undef :: undef :: undef :: undef :: undef :: undef :: undef :: undef :: undef :: undef :: undef :: undef :: undef :: undef :: undef :: undef :: undef :: undef :: undef :: undef :: undef :: undef :: undef :: undef :: undef :: undef :: undef :: undef :: undef :: undef :: undef :: undef :: undef :: undef :: undef :: undef :: undef :: undef :: undef :: undef :: undef :: undef :: undef :: undef :: undef :: []) ∧ kq = (N - (w).toNat) ∧ (0 ≤ w) ∧ (w ≤ N) ∧ (m = farth (ds11.take (w).toNat)) ∧ St W17 (owns []) w' []) (N - ((0 : Int)).toNat) ⟨(fun k_ : Nat => List.getD ((.int .i64 (N : Int)) :: (.slice A arcs.length c) :: (.int .i64 v) :: (.int .i64 d) :: (.int .i64 no) :: undef :: undef :: undef :: undef :: undef :: (.bool false) :: (.pointer (some ⟨g, 0, none⟩)) :: (.int .i64 0) :: undef :: (.pointer (some ⟨g7, 0, none⟩)) :: (.pointer (some ⟨t9, 0, none⟩)) :: (.slice A15 ds11.length c16) :: (.int .i64 (-1)) :: (.int .i64 0) :: undef :: (.int .i64 (N : Int)) :: (.bool false) :: (.bool false) :: (.slice A arcs.length c) :: (.int .i64 (arcs.length : Int)) :: (.bool false) :: (.bool false) :: undef :: (.tuple #[.pointer (some ⟨g, 0, none⟩), .int .i64 0]) :: (.int .i64 (N : Int)) :: (.slice A arcs.length c) :: (.tuple #[.pointer (some ⟨g, 0, none⟩), .int .i64 0]) :: (.pointer (some ⟨g, 0, none⟩)) :: (.int .i64 0) :: (.int .i64 0) :: (.bool false) :: undef :: undef :: undef :: undef :: undef :: undef :: undef :: undef :: undef :: undef :: undef :: undef :: undef :: undef :: undef :: (.pointer (some ⟨g, 0, none⟩)) :: (.int .i64 v) :: (.pointer (some ⟨t9, 0, none⟩)) :: (.int .i64 (N : Int)) :: (.slice A arcs.length c) :: (.int .i64 v) :: (.slice A15 ds11.length c16) :: undef :: undef :: undef :: undef :: undef :: undef :: undef :: undef :: undef :: undef :: undef :: undef :: undef :: undef :: undef :: undef :: undef :: undef :: undef :: undef :: undef :: undef :: undef :: undef :: undef :: undef :: undef :: undef :: undef :: undef :: undef :: undef :: undef :: undef :: undef :: undef :: undef :: undef :: undef :: undef :: undef :: undef :: undef :: undef :: undef :: undef :: undef :: undef :: undef :: undef :: undef :: undef :: undef :: undef :: undef :: undef :: undef :: undef :: undef :: undef :: undef :: undef :: undef :: undef :: undef :: undef :: undef :: undef :: undef :: undef :: undef :: undef :: undef :: undef :: undef :: undef :: undef :: undef :: undef :: undef :: undef :: undef :: undef :: undef :: undef :: undef :: undef :: undef :: undef :: undef :: undef :: undef :: undef :: undef :: undef :: undef :: undef :: undef :: undef :: undef :: undef :: undef :: undef :: undef :: undef :: undef :: undef :: []) k_ undef), (0 : Int), (-1 : Int), congrArg Fr (by kernel_rfl), rfl, by omega, by omega, by rw [Int.toNat_zero, List.take_zero, farth_nil], HS⟩ ?_
        clear HS
        intro kq21 a' W22 hrel
        obtain ⟨J20, w, m, rfl, hk, w0, w1, hm, HS⟩ := hrel
        refine wp_seq ?_
        refine wp_seq ?_
        refine wp_region_lit ?_
        refine ql (.int .i64 w) (by kernel_rfl) (by kernel_rfl) ?_
        refine ql (.int .i64 (N : Int)) (by kernel_rfl) (by kernel_rfl) ?_
        by_cases hc23 : w < (N : Int)
        · skip
          refine ql (.bool true) (by kernel_rfl) (R_bool (p := w < (N : Int)) (by kernel_rfl) (hc23)) ?_
          refine wpList_nil ?_
          refine x_then ?_
          refine wp_cond_true (by kernel_rfl) ?_
          refine wp_skip ?_
          refine x_then ?_
          refine wp_seq ?_
          refine wp_block ?_
          refine wp_seq ?_
          refine wp_seq ?_
          refine t_start HS (fun _ => False) 18 (by kernel_rfl) rfl ?_
          intro W24 H_ HD_
          clear HD_
          replace HS : St W17 (owns []) W24 [] := H_
          clear H_
          have HV := HS
          have HK := Kpt.refl (fun _ => False) W24
          refine t_q (n := 17) 0 (.pointer (some ⟨t9, 0, none⟩)) rfl (by kernel_rfl) (by kernel_rfl) (fun _ _ _ h => h) (fun w' hk => (by kernel_rfl)) HK ?_
          refine t_q (n := 16) 1 (.int .i64 w) rfl (by kernel_rfl) (by kernel_rfl) (fun _ _ _ h => h) (fun w' hk => (by kernel_rfl)) HK ?_
          refine t_q (n := 15) 3 (.slice A15 ds11.length c16) rfl (by kernel_rfl) (by kernel_rfl) (fun _ _ _ h => h) (fun w' hk => (by kernel_rfl)) HK ?_
          refine t_q (n := 14) 4 (.int .i64 w) rfl (by kernel_rfl) (by kernel_rfl) (fun _ _ _ h => h) (fun w' hk => (by kernel_rfl)) HK ?_
          obtain ⟨ad25, rfl⟩ := Rd.isSome_ hr19 (by rw [ci_len]; omega)
          refine t_q (n := 13) 5 (.pointer (some (ad25.add w.toNat))) rfl (by kernel_rfl) (by kernel_rfl) (fun _ _ _ h => h) (fun w' hk => (R_indexA1 (k := .i64) (p := ad25) (n := ds11.length) (c := c16) (i := w) (by kernel_rfl) (by kernel_rfl) Try.underlying28 (by kernel_rfl) (by omega) (by omega))) HK ?_
          refine t_q (n := 12) 6 (.int .i64 (rdI ds11 w)) rfl (by kernel_rfl) (by kernel_rfl) (fun _ _ _ h => h) (fun w' hk => (R_load (p := ad25.add w.toNat) (by kernel_rfl) (by kernel_rfl) (by kernel_rfl) (hk.cell (HV.old0 (hr19.at_ (ci_rd (by omega) (by omega))))))) HK ?_
          refine t_c (n := 11) 2 (f := 31) (args := #[.pointer (some ⟨t9, 0, none⟩), .int .i64 w]) rfl (by kernel_rfl) (by kernel_rfl) (R_call #[.pointer (some ⟨t9, 0, none⟩), .int .i64 w] Try.func31 (by kernel_rfl) (by kernel_rfl) (by kernel_rfl)) ?_
          refine (tdist_y t9 ds11 bs12 _ (hTh10.below (HS.kept.below owns_nil)) w (by omega) (by have h_ := hDh10.ld; omega)).mono ?_
          rintro e W26 ⟨rfl, H_⟩
          refine ⟨_, rfl, HK.tr H_.kept.nil, ?_⟩
          replace HK := HK.tr H_.kept.nil
          replace HS : St W17 (owns []) W26 [] := HS.join (F := []) (G := []) H_
          clear H_
          refine t_q (n := 10) 7 (.bool false) rfl (by kernel_rfl) (by kernel_rfl) (fun _ _ _ h => h) (fun w' hk => (R_beq (b := (rdI ds11 w != rdI ds11 w)) (by kernel_rfl) (bne_f (by omega)))) HK ?_
          refine t_q (n := 9) 8 (.bool false) rfl (by kernel_rfl) (by kernel_rfl) (fun _ _ _ h => h) (fun w' hk => (by kernel_rfl)) HK ?_
          refine t_q (n := 8) 9 (.pointer (some ⟨t9, 0, none⟩)) rfl (by kernel_rfl) (by kernel_rfl) (fun _ _ _ h => h) (fun w' hk => (by kernel_rfl)) HK ?_
          refine t_q (n := 7) 10 (.int .i64 w) rfl (by kernel_rfl) (by kernel_rfl) (fun _ _ _ h => h) (fun w' hk => (by kernel_rfl)) HK ?_
          refine t_q (n := 6) 12 (.slice A arcs.length c) rfl (by kernel_rfl) (by kernel_rfl) (fun _ _ _ h => h) (fun w' hk => (by kernel_rfl)) HK ?_
          refine t_q (n := 5) 13 (.slice (some ad25) ds11.length c16) rfl (by kernel_rfl) (by kernel_rfl) (fun _ _ _ h => h) (fun w' hk => (by kernel_rfl)) HK ?_
          refine t_q (n := 4) 14 (.int .i64 w) rfl (by kernel_rfl) (by kernel_rfl) (fun _ _ _ h => h) (fun w' hk => (by kernel_rfl)) HK ?_
          refine t_c (n := 3) 11 (f := 34) (args := #[.pointer (some ⟨t9, 0, none⟩), .int .i64 w]) rfl (by kernel_rfl) (by kernel_rfl) (R_call #[.pointer (some ⟨t9, 0, none⟩), .int .i64 w] Try.func34 (by kernel_rfl) (by kernel_rfl) (by kernel_rfl)) ?_
          refine (tback_y t9 ds11 bs12 _ (hTh10.below (HS.kept.below owns_nil)) w (by omega) (by have h_ := hDh10.ld; omega)).mono ?_
          rintro e W27 ⟨rfl, H_⟩
          refine ⟨_, rfl, HK.tr H_.kept.nil, ?_⟩
          replace HK := HK.tr H_.kept.nil
          replace HS : St W17 (owns []) W27 [] := HS.join (F := []) (G := []) H_
          clear H_
          refine t_c (n := 2) 15 (f := 35) (args := #[.slice A arcs.length c, .slice (some ad25) ds11.length c16, .int .i64 w]) rfl (by kernel_rfl) (by kernel_rfl) (R_call #[.slice A arcs.length c, .slice (some ad25) ds11.length c16, .int .i64 w] Try.func35 (by kernel_rfl) (by kernel_rfl) (by kernel_rfl)) ?_
          refine (rback N _ _ arcs _ (hr.old0 HS) (by omega) _ _ ds11 bs12 v w (hr19.old0 HS) hFF (by omega) hDh10 hKh10 (by omega) (by omega)).mono ?_
          rintro e W28 ⟨rfl, H_⟩
          refine ⟨_, rfl, HK.tr H_.kept.nil, ?_⟩
          replace HK := HK.tr H_.kept.nil
          replace HS : St W17 (owns []) W28 [] := HS.join (F := []) (G := []) H_
          clear H_
          refine t_q (n := 1) 16 (.bool false) rfl (by kernel_rfl) (by kernel_rfl) (fun _ _ _ h => h) (fun w' hk => (R_beq (b := (rdI bs12 w != rdI bs12 w)) (by kernel_rfl) (bne_f (by omega)))) HK ?_
          refine t_q (n := 0) 17 (.bool false) rfl (by kernel_rfl) (by kernel_rfl) (fun _ _ _ h => h) (fun w' hk => (by kernel_rfl)) HK ?_
          refine t_done (by kernel_rfl) ?_
          clear HV HK
          refine x_then ?_
          refine wp_cond_false (by kernel_rfl) ?_
          refine wp_skip ?_
          refine x_then ?_
          refine wp_seq ?_
          refine wp_region_lit ?_
          refine ql (.slice (some ad25) ds11.length c16) (by kernel_rfl) (by kernel_rfl) ?_
          refine ql (.int .i64 w) (by kernel_rfl) (by kernel_rfl) ?_
          refine ql (.pointer (some (ad25.add w.toNat))) (by kernel_rfl) (R_indexA1 (k := .i64) (p := ad25) (n := ds11.length) (c := c16) (i := w) (by kernel_rfl) (by kernel_rfl) Try.underlying28 (by kernel_rfl) (by omega) (by omega)) ?_
          refine ql (.int .i64 (rdI ds11 w)) (by kernel_rfl) (R_load (p := ad25.add w.toNat) (by kernel_rfl) (by kernel_rfl) (by kernel_rfl) (HS.old0 (hr19.at_ (ci_rd (by omega) (by omega))))) ?_
          refine ql (.int .i64 m) (by kernel_rfl) (by kernel_rfl) ?_
          by_cases hc29 : (rdI ds11 w) > m
          · skip
            refine ql (.bool true) (by kernel_rfl) (R_bool (p := (rdI ds11 w) > m) (by kernel_rfl) (hc29)) ?_
            refine wpList_nil ?_
            refine x_then ?_
            refine wp_cond_true (by kernel_rfl) ?_
            refine wp_region_lit ?_
            refine ql (.slice (some ad25) ds11.length c16) (by kernel_rfl) (by kernel_rfl) ?_
            refine ql (.int .i64 w) (by kernel_rfl) (by kernel_rfl) ?_
            refine ql (.pointer (some (ad25.add w.toNat))) (by kernel_rfl) (R_indexA1 (k := .i64) (p := ad25) (n := ds11.length) (c := c16) (i := w) (by kernel_rfl) (by kernel_rfl) Try.underlying28 (by kernel_rfl) (by omega) (by omega)) ?_
            refine ql (.int .i64 (rdI ds11 w)) (by kernel_rfl) (R_load (p := ad25.add w.toNat) (by kernel_rfl) (by kernel_rfl) (by kernel_rfl) (HS.old0 (hr19.at_ (ci_rd (by omega) (by omega))))) ?_
            refine ql (.int .i64 (rdI ds11 w)) (by kernel_rfl) (by kernel_rfl) ?_
            refine wpList_nil ?_
            refine x_inb ?_
            refine x_then ?_
            refine wp_region_lit ?_
            refine ql (.int .i64 w) (by kernel_rfl) (by kernel_rfl) ?_
            refine ql (.int .i64 (w + 1)) (by kernel_rfl) (R_int (by kernel_rfl) (w64 (by omega))) ?_
            refine ql (.int .i64 (w + 1)) (by kernel_rfl) (by kernel_rfl) ?_
            refine wpList_nil ?_
            have hst := farth_step (ds := ds11) w0 (by omega)
            refine x_then ?_
            exact ⟨N - (w + 1).toNat, by omega, (fun k_ : Nat => List.getD ((.int .i64 (N : Int)) :: (.slice A arcs.length c) :: (.int .i64 v) :: (.int .i64 d) :: (.int .i64 no) :: undef :: undef :: undef :: undef :: undef :: ((J20 10)) :: (.pointer (some ⟨g, 0, none⟩)) :: (.int .i64 0) :: undef :: (.pointer (some ⟨g7, 0, none⟩)) :: (.pointer (some ⟨t9, 0, none⟩)) :: (.slice (some ad25) ds11.length c16) :: (.int .i64 (rdI ds11 w)) :: (.int .i64 (w + 1)) :: undef :: (.int .i64 (N : Int)) :: (.bool false) :: (.bool false) :: (.slice A arcs.length c) :: (.int .i64 (arcs.length : Int)) :: (.bool false) :: (.bool false) :: undef :: (.tuple #[.pointer (some ⟨g, 0, none⟩), .int .i64 0]) :: (.int .i64 (N : Int)) :: (.slice A arcs.length c) :: (.tuple #[.pointer (some ⟨g, 0, none⟩), .int .i64 0]) :: (.pointer (some ⟨g, 0, none⟩)) :: (.int .i64 0) :: (.int .i64 0) :: (.bool false) :: undef :: undef :: undef :: undef :: undef :: undef :: undef :: undef :: undef :: undef :: undef :: undef :: undef :: undef :: undef :: (.pointer (some ⟨g, 0, none⟩)) :: (.int .i64 v) :: (.pointer (some ⟨t9, 0, none⟩)) :: (.int .i64 (N : Int)) :: (.slice A arcs.length c) :: (.int .i64 v) :: (.slice (some ad25) ds11.length c16) :: (.int .i64 w) :: (.int .i64 (N : Int)) :: (.bool true) :: (.int .i64 w) :: (.int .i64 (w + 1)) :: (.pointer (some ⟨t9, 0, none⟩)) :: (.int .i64 w) :: (.int .i64 (rdI ds11 w)) :: (.slice (some ad25) ds11.length c16) :: (.int .i64 w) :: (.pointer (some (ad25.add w.toNat))) :: (.int .i64 (rdI ds11 w)) :: (.bool false) :: (.bool false) :: (.pointer (some ⟨t9, 0, none⟩)) :: (.int .i64 w) :: (.int .i64 (rdI bs12 w)) :: (.slice A arcs.length c) :: (.slice (some ad25) ds11.length c16) :: (.int .i64 w) :: (.int .i64 (rdI bs12 w)) :: (.bool false) :: (.bool false) :: (.slice (some ad25) ds11.length c16) :: (.int .i64 w) :: (.pointer (some (ad25.add w.toNat))) :: (.int .i64 (rdI ds11 w)) :: (.int .i64 m) :: (.bool true) :: (.slice (some ad25) ds11.length c16) :: (.int .i64 w) :: (.pointer (some (ad25.add w.toNat))) :: (.int .i64 (rdI ds11 w)) :: undef :: undef :: undef :: undef :: undef :: undef :: undef :: undef :: undef :: undef :: undef :: undef :: undef :: undef :: undef :: undef :: undef :: undef :: undef :: undef :: undef :: undef :: undef :: undef :: undef :: undef :: undef :: undef :: undef :: undef :: undef :: undef :: undef :: undef :: undef :: undef :: undef :: undef :: undef :: undef :: undef :: undef :: undef :: undef :: undef :: undef :: undef :: undef :: undef :: undef :: undef :: undef :: undef :: undef :: undef :: undef :: undef :: undef :: undef :: undef :: undef :: undef :: undef :: undef :: undef :: undef :: undef :: undef :: undef :: undef :: undef :: undef :: undef :: undef :: []) k_ undef), w + 1, rdI ds11 w, congrArg Fr (by kernel_rfl), rfl, by omega, by omega, by rw [hst, ← hm]; omega, HS⟩
          · skip
            refine ql (.bool false) (by kernel_rfl) (R_nbool (p := (rdI ds11 w) > m) (by kernel_rfl) (hc29)) ?_
            refine wpList_nil ?_
            refine x_then ?_
            refine wp_cond_false (by kernel_rfl) ?_
            refine wp_skip ?_
            refine x_inb ?_
            refine x_then ?_
            refine wp_region_lit ?_
            refine ql (.int .i64 w) (by kernel_rfl) (by kernel_rfl) ?_
            refine ql (.int .i64 (w + 1)) (by kernel_rfl) (R_int (by kernel_rfl) (w64 (by omega))) ?_
            refine ql (.int .i64 (w + 1)) (by kernel_rfl) (by kernel_rfl) ?_
            refine wpList_nil ?_
            have hst := farth_step (ds := ds11) w0 (by omega)
            refine x_then ?_
            exact ⟨N - (w + 1).toNat, by omega, (fun k_ : Nat => List.getD ((.int .i64 (N : Int)) :: (.slice A arcs.length c) :: (.int .i64 v) :: (.int .i64 d) :: (.int .i64 no) :: undef :: undef :: undef :: undef :: undef :: ((J20 10)) :: (.pointer (some ⟨g, 0, none⟩)) :: (.int .i64 0) :: undef :: (.pointer (some ⟨g7, 0, none⟩)) :: (.pointer (some ⟨t9, 0, none⟩)) :: (.slice (some ad25) ds11.length c16) :: (.int .i64 m) :: (.int .i64 (w + 1)) :: undef :: (.int .i64 (N : Int)) :: (.bool false) :: (.bool false) :: (.slice A arcs.length c) :: (.int .i64 (arcs.length : Int)) :: (.bool false) :: (.bool false) :: undef :: (.tuple #[.pointer (some ⟨g, 0, none⟩), .int .i64 0]) :: (.int .i64 (N : Int)) :: (.slice A arcs.length c) :: (.tuple #[.pointer (some ⟨g, 0, none⟩), .int .i64 0]) :: (.pointer (some ⟨g, 0, none⟩)) :: (.int .i64 0) :: (.int .i64 0) :: (.bool false) :: undef :: undef :: undef :: undef :: undef :: undef :: undef :: undef :: undef :: undef :: undef :: undef :: undef :: undef :: undef :: (.pointer (some ⟨g, 0, none⟩)) :: (.int .i64 v) :: (.pointer (some ⟨t9, 0, none⟩)) :: (.int .i64 (N : Int)) :: (.slice A arcs.length c) :: (.int .i64 v) :: (.slice (some ad25) ds11.length c16) :: (.int .i64 w) :: (.int .i64 (N : Int)) :: (.bool true) :: (.int .i64 w) :: (.int .i64 (w + 1)) :: (.pointer (some ⟨t9, 0, none⟩)) :: (.int .i64 w) :: (.int .i64 (rdI ds11 w)) :: (.slice (some ad25) ds11.length c16) :: (.int .i64 w) :: (.pointer (some (ad25.add w.toNat))) :: (.int .i64 (rdI ds11 w)) :: (.bool false) :: (.bool false) :: (.pointer (some ⟨t9, 0, none⟩)) :: (.int .i64 w) :: (.int .i64 (rdI bs12 w)) :: (.slice A arcs.length c) :: (.slice (some ad25) ds11.length c16) :: (.int .i64 w) :: (.int .i64 (rdI bs12 w)) :: (.bool false) :: (.bool false) :: (.slice (some ad25) ds11.length c16) :: (.int .i64 w) :: (.pointer (some (ad25.add w.toNat))) :: (.int .i64 (rdI ds11 w)) :: (.int .i64 m) :: (.bool false) :: ((J20 87)) :: ((J20 88)) :: ((J20 89)) :: ((J20 90)) :: undef :: undef :: undef :: undef :: undef :: undef :: undef :: undef :: undef :: undef :: undef :: undef :: undef :: undef :: undef :: undef :: undef :: undef :: undef :: undef :: undef :: undef :: undef :: undef :: undef :: undef :: undef :: undef :: undef :: undef :: undef :: undef :: undef :: undef :: undef :: undef :: undef :: undef :: undef :: undef :: undef :: undef :: undef :: undef :: undef :: undef :: undef :: undef :: undef :: undef :: undef :: undef :: undef :: undef :: undef :: undef :: undef :: undef :: undef :: undef :: undef :: undef :: undef :: undef :: undef :: undef :: undef :: undef :: undef :: undef :: undef :: undef :: undef :: undef :: []) k_ undef), w + 1, m, congrArg Fr (by kernel_rfl), rfl, by omega, by omega, by rw [hst, ← hm]; omega, HS⟩
        · skip
          refine ql (.bool false) (by kernel_rfl) (R_nbool (p := w < (N : Int)) (by kernel_rfl) (hc23)) ?_
          refine wpList_nil ?_
          refine x_then ?_
          refine wp_cond_false (by kernel_rfl) ?_
          refine wp_exit ?_
          refine x_thenE ?_
          refine x_thenE ?_
          refine x_hit ?_
          refine x_then ?_
          refine wp_seq ?_
          refine wp_region_lit ?_
          refine ql (.pointer none) (by kernel_rfl) (by kernel_rfl) ?_
          refine wpList_nil ?_
          refine x_then ?_
          refine wp_seq ?_
          refine wp_seq ?_
          have hmf : m = farth ds11 := by rw [hm, List.take_of_length_le (by omega)]
          refine wp_region_lit ?_
          refine ql (.pointer none) (by kernel_rfl) (by kernel_rfl) ?_
          refine qc (f := 31) (args := #[.pointer none, .int .i64 0]) (by kernel_rfl) (R_call #[.pointer none, .int .i64 0] Try.func31 (by kernel_rfl) (by kernel_rfl) (by kernel_rfl)) ?_
          refine (nt_dist 0 _).mono ?_
          rintro e W30 ⟨rfl, H_⟩
          refine ⟨_, rfl, ?_⟩
          replace HS : St W17 (owns []) W30 [] := HS.join (F := []) (G := []) H_
          clear H_
          refine ql (.bool false) (by kernel_rfl) (R_beq (b := ((-1 : Int) != -1)) (by kernel_rfl) (by decide)) ?_
          refine ql (.bool false) (by kernel_rfl) (by kernel_rfl) ?_
          refine ql (.pointer none) (by kernel_rfl) (by kernel_rfl) ?_
          refine qc (f := 34) (args := #[.pointer none, .int .i64 0]) (by kernel_rfl) (R_call #[.pointer none, .int .i64 0] Try.func34 (by kernel_rfl) (by kernel_rfl) (by kernel_rfl)) ?_
          refine (nt_back 0 _).mono ?_
          rintro e W31 ⟨rfl, H_⟩
          refine ⟨_, rfl, ?_⟩
          replace HS : St W17 (owns []) W31 [] := HS.join (F := []) (G := []) H_
          clear H_
          refine ql (.bool false) (by kernel_rfl) (R_beq (b := ((-1 : Int) != -1)) (by kernel_rfl) (by decide)) ?_
          refine ql (.bool false) (by kernel_rfl) (by kernel_rfl) ?_
          refine ql (.bool false) (by kernel_rfl) (by kernel_rfl) ?_
          refine ql (.pointer none) (by kernel_rfl) (by kernel_rfl) ?_
          refine qc (f := 32) (args := #[.pointer none]) (by kernel_rfl) (R_call #[.pointer none] Try.func32 (by kernel_rfl) (by kernel_rfl) (by kernel_rfl)) ?_
          refine (nt_far _).mono ?_
          rintro e W32 ⟨rfl, H_⟩
          refine ⟨_, rfl, ?_⟩
          replace HS : St W17 (owns []) W32 [] := HS.join (F := []) (G := []) H_
          clear H_
          refine ql (.bool false) (by kernel_rfl) (R_beq (b := ((-1 : Int) != -1)) (by kernel_rfl) (by decide)) ?_
          refine ql (.bool false) (by kernel_rfl) (by kernel_rfl) ?_
          refine ql (.bool false) (by kernel_rfl) (by kernel_rfl) ?_
          refine ql (.pointer none) (by kernel_rfl) (by kernel_rfl) ?_
          refine qc (f := 36) (args := #[.pointer none, .int .i64 0]) (by kernel_rfl) (R_call #[.pointer none, .int .i64 0] Try.func36 (by kernel_rfl) (by kernel_rfl) (by kernel_rfl)) ?_
          refine (nt_layer 0 _).mono ?_
          rintro e W33 ⟨rfl, H_⟩
          refine ⟨_, rfl, ?_⟩
          replace HS : St W17 (owns []) W33 [] := HS.join (F := []) (G := []) H_
          clear H_
          refine ql (.int .i64 0) (by kernel_rfl) (by kernel_rfl) ?_
          refine ql (.bool false) (by kernel_rfl) (R_beq (b := decide ((0 : Int) > 0)) (by kernel_rfl) (by decide)) ?_
          refine ql (.bool false) (by kernel_rfl) (by kernel_rfl) ?_
          refine ql (.bool false) (by kernel_rfl) (by kernel_rfl) ?_
          refine qc (f := 37) (args := #[.pointer (some ⟨g7, 0, none⟩), .int .i64 6]) (by kernel_rfl) (R_call #[.pointer (some ⟨g7, 0, none⟩), .int .i64 6] Try.func37 (by kernel_rfl) (by kernel_rfl) (by kernel_rfl)) ?_
          refine (cof_6 g7 (0 + ((k : Nat) : Int)) _ (hc.old0 HS)).mono ?_
          rintro e W34 ⟨rfl, H_⟩
          refine ⟨_, rfl, ?_⟩
          replace HS : St W17 (owns []) W34 [] := HS.join (F := []) (G := []) H_
          clear H_
          refine ql (.bool false) (by kernel_rfl) (R_nbool (p := (0 + ((k : Nat) : Int)) < (0 : Int)) (by kernel_rfl) (by omega)) ?_
          refine ql (.bool false) (by kernel_rfl) (by kernel_rfl) ?_
          refine ql (.bool false) (by kernel_rfl) (by kernel_rfl) ?_
          refine qc (f := 37) (args := #[.pointer (some ⟨g7, 0, none⟩), .int .i64 6]) (by kernel_rfl) (R_call #[.pointer (some ⟨g7, 0, none⟩), .int .i64 6] Try.func37 (by kernel_rfl) (by kernel_rfl) (by kernel_rfl)) ?_
          refine (cof_6 g7 (0 + ((k : Nat) : Int)) _ (hc.old0 HS)).mono ?_
          rintro e W35 ⟨rfl, H_⟩
          refine ⟨_, rfl, ?_⟩
          replace HS : St W17 (owns []) W35 [] := HS.join (F := []) (G := []) H_
          clear H_
          refine ql (.int .i64 (N : Int)) (by kernel_rfl) (by kernel_rfl) ?_
          refine ql (.slice A arcs.length c) (by kernel_rfl) (by kernel_rfl) ?_
          refine ql (.int .i64 (arcs.length : Int)) (by kernel_rfl) (by kernel_rfl) ?_
          refine ql (.int .i64 ((N : Int) + (arcs.length : Int))) (by kernel_rfl) (R_int (by kernel_rfl) (w64 (by omega))) ?_
          refine ql (.int .i64 (2 * ((N : Int) + (arcs.length : Int)))) (by kernel_rfl) (R_int (by kernel_rfl) (w64 (by omega))) ?_
          refine ql (.bool false) (by kernel_rfl) (R_nbool (p := (0 + ((k : Nat) : Int)) > (2 * ((N : Int) + (arcs.length : Int)))) (by kernel_rfl) (by omega)) ?_
          refine ql (.bool false) (by kernel_rfl) (by kernel_rfl) ?_
          refine ql (.bool false) (by kernel_rfl) (by kernel_rfl) ?_
          refine qc (f := 38) (args := #[.pointer (some ⟨g7, 0, none⟩)]) (by kernel_rfl) (R_call #[.pointer (some ⟨g7, 0, none⟩)] Try.func38 (by kernel_rfl) (by kernel_rfl) (by kernel_rfl)) ?_
          refine (ctotal g7 (0 + ((k : Nat) : Int)) _ (hc.old0 HS) (by omega) (by omega)).mono ?_
          rintro e W36 ⟨rfl, H_⟩
          refine ⟨_, rfl, ?_⟩
          replace HS : St W17 (owns []) W36 [] := HS.join (F := []) (G := []) H_
          clear H_
          refine qc (f := 37) (args := #[.pointer (some ⟨g7, 0, none⟩), .int .i64 6]) (by kernel_rfl) (R_call #[.pointer (some ⟨g7, 0, none⟩), .int .i64 6] Try.func37 (by kernel_rfl) (by kernel_rfl) (by kernel_rfl)) ?_
          refine (cof_6 g7 (0 + ((k : Nat) : Int)) _ (hc.old0 HS)).mono ?_
          rintro e W37 ⟨rfl, H_⟩
          refine ⟨_, rfl, ?_⟩
          replace HS : St W17 (owns []) W37 [] := HS.join (F := []) (G := []) H_
          clear H_
          refine ql (.bool false) (by kernel_rfl) (R_beq (b := (0 + ((k : Nat) : Int) != 0 + ((k : Nat) : Int))) (by kernel_rfl) (bne_f (by omega))) ?_
          refine ql (.bool false) (by kernel_rfl) (by kernel_rfl) ?_
          refine wpList_nil ?_
          refine x_then ?_
          refine wp_cond_false (by kernel_rfl) ?_
          refine wp_skip ?_
          refine x_then ?_
          refine wp_seq ?_
          have hll := layr_le2 ds11 d
          refine wp_region_lit ?_
          refine ql (.pointer (some ⟨t9, 0, none⟩)) (by kernel_rfl) (by kernel_rfl) ?_
          refine qc (f := 32) (args := #[.pointer (some ⟨t9, 0, none⟩)]) (by kernel_rfl) (R_call #[.pointer (some ⟨t9, 0, none⟩)] Try.func32 (by kernel_rfl) (by kernel_rfl) (by kernel_rfl)) ?_
          refine (tfar_ t9 ds11 bs12 _ (hTh10.below (HS.kept.below owns_nil)) (by rw [hDh10.ld]; omega)).mono ?_
          rintro e W38 ⟨rfl, H_⟩
          refine ⟨_, rfl, ?_⟩
          replace HS : St W17 (owns []) W38 [] := HS.join (F := []) (G := []) H_
          clear H_
          refine ql (.int .i64 m) (by kernel_rfl) (by kernel_rfl) ?_
          refine ql (.bool true) (by kernel_rfl) (R_beq (b := (farth ds11 == m)) (by kernel_rfl) (beq_t (hmf.symm))) ?_
          refine ql (.bool true) (by kernel_rfl) (by kernel_rfl) ?_
          refine ql (.pointer (some ⟨t9, 0, none⟩)) (by kernel_rfl) (by kernel_rfl) ?_
          refine ql (.int .i64 d) (by kernel_rfl) (by kernel_rfl) ?_
          refine qc (f := 36) (args := #[.pointer (some ⟨t9, 0, none⟩), .int .i64 d]) (by kernel_rfl) (R_call #[.pointer (some ⟨t9, 0, none⟩), .int .i64 d] Try.func36 (by kernel_rfl) (by kernel_rfl) (by kernel_rfl)) ?_
          by_cases hv39 : 0 ≤ d
          · skip
            refine (tlayer_y t9 ds11 bs12 _ (hTh10.below (HS.kept.below owns_nil)) d (by rw [hDh10.ld]; omega) (by omega)).mono ?_
            rintro e W42 ⟨A40, c41, rfl, H_⟩
            refine ⟨_, rfl, ?_⟩
            replace HS : St W17 (owns []) W42 [row A40 ((layr ds11 d ds11.length).length) c41 (ci .i64 (layr ds11 d ds11.length)) 3 1] := HS.join (F := []) (G := [row A40 ((layr ds11 d ds11.length).length) c41 (ci .i64 (layr ds11 d ds11.length)) 3 1]) H_
            clear H_
            refine ql (.slice A15 ds11.length c16) (by kernel_rfl) (by kernel_rfl) ?_
            refine ql (.int .i64 d) (by kernel_rfl) (by kernel_rfl) ?_
            refine qc (f := 39) (args := #[.slice A15 ds11.length c16, .int .i64 d]) (by kernel_rfl) (R_call #[.slice A15 ds11.length c16, .int .i64 d] Try.func39 (by kernel_rfl) (by kernel_rfl) (by kernel_rfl)) ?_
            refine (rlayer_pos _ _ ds11 d _ (hr19.old0 HS) (by omega) (by omega)).mono ?_
            rintro e W45 ⟨A43, c44, rfl, H_⟩
            refine ⟨_, rfl, ?_⟩
            replace HS : St W17 (owns []) W45 [row A43 ((layr ds11 d ds11.length).length) c44 (ci .i64 (layr ds11 d ds11.length)) 3 1, row A40 ((layr ds11 d ds11.length).length) c41 (ci .i64 (layr ds11 d ds11.length)) 3 1] := HS.join (F := []) (G := [row A43 ((layr ds11 d ds11.length).length) c44 (ci .i64 (layr ds11 d ds11.length)) 3 1]) H_
            clear H_
            refine qc (f := 23) (args := #[.slice A40 ((layr ds11 d ds11.length).length) c41, .slice A43 ((layr ds11 d ds11.length).length) c44]) (by kernel_rfl) (R_call #[.slice A40 ((layr ds11 d ds11.length).length) c41, .slice A43 ((layr ds11 d ds11.length).length) c44] Try.func23 (by kernel_rfl) (by kernel_rfl) (by kernel_rfl)) ?_
            refine (same_eq _ _ _ _ (layr ds11 d ds11.length) (layr ds11 d ds11.length) _ rfl (Rd.row HS (i := 1) rfl) (Rd.row HS (i := 0) rfl) (by first | omega | simp)).mono ?_
            rintro e W46 ⟨rfl, H_⟩
            refine ⟨_, rfl, ?_⟩
            replace HS : St W17 (owns []) W46 [row A43 ((layr ds11 d ds11.length).length) c44 (ci .i64 (layr ds11 d ds11.length)) 3 1, row A40 ((layr ds11 d ds11.length).length) c41 (ci .i64 (layr ds11 d ds11.length)) 3 1] := HS.join (F := []) (G := []) H_
            clear H_
            refine ql (.bool true) (by kernel_rfl) (by kernel_rfl) ?_
            refine ql (.bool true) (by kernel_rfl) (by kernel_rfl) ?_
            refine ql (.int .i64 no) (by kernel_rfl) (by kernel_rfl) ?_
            by_cases hc47 : no ≥ (0 : Int)
            · skip
              refine ql (.bool true) (by kernel_rfl) (R_bool (p := no ≥ (0 : Int)) (by kernel_rfl) (hc47)) ?_
              refine ql (.bool true) (by kernel_rfl) (by kernel_rfl) ?_
              refine ql (.int .i64 no) (by kernel_rfl) (by kernel_rfl) ?_
              refine ql (.int .i64 (N : Int)) (by kernel_rfl) (by kernel_rfl) ?_
              by_cases hc48 : no < (N : Int)
              · skip
                refine ql (.bool true) (by kernel_rfl) (R_bool (p := no < (N : Int)) (by kernel_rfl) (hc48)) ?_
                refine ql (.bool true) (by kernel_rfl) (by kernel_rfl) ?_
                refine ql (.bool true) (by kernel_rfl) (by kernel_rfl) ?_
                refine qln (by kernel_rfl) ?_
                refine qln (by kernel_rfl) ?_
                refine qln (by kernel_rfl) ?_
                refine qln (by kernel_rfl) ?_
                refine qln (by kernel_rfl) ?_
                refine qln (by kernel_rfl) ?_
                refine qln (by kernel_rfl) ?_
                refine qln (by kernel_rfl) ?_
                refine qln (by kernel_rfl) ?_
                refine qln (by kernel_rfl) ?_
                refine ql (.bool true) (by kernel_rfl) (by kernel_rfl) ?_
                refine ql (.bool true) (by kernel_rfl) (by kernel_rfl) ?_
                refine ql (.bool true) (by kernel_rfl) (by kernel_rfl) ?_
                refine qc (f := 29) (args := #[]) (by kernel_rfl) (R_call #[] Try.func29 (by kernel_rfl) (by kernel_rfl) (by kernel_rfl)) ?_
                refine (awake13 _).mono ?_
                rintro e W49 ⟨rfl, H_⟩
                refine ⟨_, rfl, ?_⟩
                replace HS : St W17 (owns []) W49 [row A43 ((layr ds11 d ds11.length).length) c44 (ci .i64 (layr ds11 d ds11.length)) 3 1, row A40 ((layr ds11 d ds11.length).length) c41 (ci .i64 (layr ds11 d ds11.length)) 3 1] := HS.join (F := []) (G := []) H_
                clear H_
                refine ql (.bool true) (by kernel_rfl) (by kernel_rfl) ?_
                refine ql (.bool true) (by kernel_rfl) (by kernel_rfl) ?_
                refine wpList_nil ?_
                refine x_then ?_
                refine wp_ret ?_
                refine ret_ (.bool true) (by kernel_rfl) ?_
                replace HS : St W13 (owns []) W49 [row A43 ((layr ds11 d ds11.length).length) c44 (ci .i64 (layr ds11 d ds11.length)) 3 1, row A40 ((layr ds11 d ds11.length).length) c41 (ci .i64 (layr ds11 d ds11.length)) 3 1, row A15 ds11.length c16 (ci .i64 ds11) 3 1] := HB18.join (F := []) (G := [row A43 ((layr ds11 d ds11.length).length) c44 (ci .i64 (layr ds11 d ds11.length)) 3 1, row A40 ((layr ds11 d ds11.length).length) c41 (ci .i64 (layr ds11 d ds11.length)) 3 1]) HS
                replace HS : St W5 (owns []) W49 [row A43 ((layr ds11 d ds11.length).length) c44 (ci .i64 (layr ds11 d ds11.length)) 3 1, row A40 ((layr ds11 d ds11.length).length) c41 (ci .i64 (layr ds11 d ds11.length)) 3 1, row A15 ds11.length c16 (ci .i64 ds11) 3 1, blk g7 [.int .i64 0, .int .i64 0, .int .i64 0, .int .i64 0, .int .i64 0, .int .i64 0, .int .i64 (0 + ((k : Nat) : Int))] 51] := HB14.join (F := []) (G := [row A43 ((layr ds11 d ds11.length).length) c44 (ci .i64 (layr ds11 d ds11.length)) 3 1, row A40 ((layr ds11 d ds11.length).length) c41 (ci .i64 (layr ds11 d ds11.length)) 3 1, row A15 ds11.length c16 (ci .i64 ds11) 3 1]) HS
                replace HS : St W (owns []) W49 [row A43 ((layr ds11 d ds11.length).length) c44 (ci .i64 (layr ds11 d ds11.length)) 3 1, row A40 ((layr ds11 d ds11.length).length) c41 (ci .i64 (layr ds11 d ds11.length)) 3 1, row A15 ds11.length c16 (ci .i64 ds11) 3 1, blk g7 [.int .i64 0, .int .i64 0, .int .i64 0, .int .i64 0, .int .i64 0, .int .i64 0, .int .i64 (0 + ((k : Nat) : Int))] 51] := HB6.join (F := []) (G := [row A43 ((layr ds11 d ds11.length).length) c44 (ci .i64 (layr ds11 d ds11.length)) 3 1, row A40 ((layr ds11 d ds11.length).length) c41 (ci .i64 (layr ds11 d ds11.length)) 3 1, row A15 ds11.length c16 (ci .i64 ds11) 3 1, blk g7 [.int .i64 0, .int .i64 0, .int .i64 0, .int .i64 0, .int .i64 0, .int .i64 0, .int .i64 (0 + ((k : Nat) : Int))] 51]) HS
                exact ⟨rfl, HS.tail (F := [row A43 ((layr ds11 d ds11.length).length) c44 (ci .i64 (layr ds11 d ds11.length)) 3 1, row A40 ((layr ds11 d ds11.length).length) c41 (ci .i64 (layr ds11 d ds11.length)) 3 1, row A15 ds11.length c16 (ci .i64 ds11) 3 1, blk g7 [.int .i64 0, .int .i64 0, .int .i64 0, .int .i64 0, .int .i64 0, .int .i64 0, .int .i64 (0 + ((k : Nat) : Int))] 51])⟩
              · skip
                refine ql (.bool false) (by kernel_rfl) (R_nbool (p := no < (N : Int)) (by kernel_rfl) (hc48)) ?_
                refine ql (.bool false) (by kernel_rfl) (by kernel_rfl) ?_
                refine ql (.bool false) (by kernel_rfl) (by kernel_rfl) ?_
                refine ql (.pointer (some ⟨t9, 0, none⟩)) (by kernel_rfl) (by kernel_rfl) ?_
                refine ql (.int .i64 no) (by kernel_rfl) (by kernel_rfl) ?_
                refine qc (f := 31) (args := #[.pointer (some ⟨t9, 0, none⟩), .int .i64 no]) (by kernel_rfl) (R_call #[.pointer (some ⟨t9, 0, none⟩), .int .i64 no] Try.func31 (by kernel_rfl) (by kernel_rfl) (by kernel_rfl)) ?_
                refine (tdist_n t9 ds11 bs12 _ (hTh10.below (HS.kept.below owns_nil)) no (by have h_ := hDh10.ld; omega)).mono ?_
                rintro e W50 ⟨rfl, H_⟩
                refine ⟨_, rfl, ?_⟩
                replace HS : St W17 (owns []) W50 [row A43 ((layr ds11 d ds11.length).length) c44 (ci .i64 (layr ds11 d ds11.length)) 3 1, row A40 ((layr ds11 d ds11.length).length) c41 (ci .i64 (layr ds11 d ds11.length)) 3 1] := HS.join (F := []) (G := []) H_
                clear H_
                refine ql (.bool true) (by kernel_rfl) (R_beq (b := ((-1 : Int) == -1)) (by kernel_rfl) (by decide)) ?_
                refine ql (.bool true) (by kernel_rfl) (by kernel_rfl) ?_
                refine ql (.pointer (some ⟨t9, 0, none⟩)) (by kernel_rfl) (by kernel_rfl) ?_
                refine ql (.int .i64 no) (by kernel_rfl) (by kernel_rfl) ?_
                refine qc (f := 34) (args := #[.pointer (some ⟨t9, 0, none⟩), .int .i64 no]) (by kernel_rfl) (R_call #[.pointer (some ⟨t9, 0, none⟩), .int .i64 no] Try.func34 (by kernel_rfl) (by kernel_rfl) (by kernel_rfl)) ?_
                refine (tback_n t9 ds11 bs12 _ (hTh10.below (HS.kept.below owns_nil)) no (by have h_ := hDh10.ld; omega)).mono ?_
                rintro e W51 ⟨rfl, H_⟩
                refine ⟨_, rfl, ?_⟩
                replace HS : St W17 (owns []) W51 [row A43 ((layr ds11 d ds11.length).length) c44 (ci .i64 (layr ds11 d ds11.length)) 3 1, row A40 ((layr ds11 d ds11.length).length) c41 (ci .i64 (layr ds11 d ds11.length)) 3 1] := HS.join (F := []) (G := []) H_
                clear H_
                refine ql (.bool true) (by kernel_rfl) (R_beq (b := ((-1 : Int) == -1)) (by kernel_rfl) (by decide)) ?_
                refine ql (.bool true) (by kernel_rfl) (by kernel_rfl) ?_
                refine ql (.bool true) (by kernel_rfl) (by kernel_rfl) ?_
                refine ql (.bool true) (by kernel_rfl) (by kernel_rfl) ?_
                refine ql (.bool true) (by kernel_rfl) (by kernel_rfl) ?_
                refine qc (f := 29) (args := #[]) (by kernel_rfl) (R_call #[] Try.func29 (by kernel_rfl) (by kernel_rfl) (by kernel_rfl)) ?_
                refine (awake13 _).mono ?_
                rintro e W52 ⟨rfl, H_⟩
                refine ⟨_, rfl, ?_⟩
                replace HS : St W17 (owns []) W52 [row A43 ((layr ds11 d ds11.length).length) c44 (ci .i64 (layr ds11 d ds11.length)) 3 1, row A40 ((layr ds11 d ds11.length).length) c41 (ci .i64 (layr ds11 d ds11.length)) 3 1] := HS.join (F := []) (G := []) H_
                clear H_
                refine ql (.bool true) (by kernel_rfl) (by kernel_rfl) ?_
                refine ql (.bool true) (by kernel_rfl) (by kernel_rfl) ?_
                refine wpList_nil ?_
                refine x_then ?_
                refine wp_ret ?_
                refine ret_ (.bool true) (by kernel_rfl) ?_
                replace HS : St W13 (owns []) W52 [row A43 ((layr ds11 d ds11.length).length) c44 (ci .i64 (layr ds11 d ds11.length)) 3 1, row A40 ((layr ds11 d ds11.length).length) c41 (ci .i64 (layr ds11 d ds11.length)) 3 1, row A15 ds11.length c16 (ci .i64 ds11) 3 1] := HB18.join (F := []) (G := [row A43 ((layr ds11 d ds11.length).length) c44 (ci .i64 (layr ds11 d ds11.length)) 3 1, row A40 ((layr ds11 d ds11.length).length) c41 (ci .i64 (layr ds11 d ds11.length)) 3 1]) HS
                replace HS : St W5 (owns []) W52 [row A43 ((layr ds11 d ds11.length).length) c44 (ci .i64 (layr ds11 d ds11.length)) 3 1, row A40 ((layr ds11 d ds11.length).length) c41 (ci .i64 (layr ds11 d ds11.length)) 3 1, row A15 ds11.length c16 (ci .i64 ds11) 3 1, blk g7 [.int .i64 0, .int .i64 0, .int .i64 0, .int .i64 0, .int .i64 0, .int .i64 0, .int .i64 (0 + ((k : Nat) : Int))] 51] := HB14.join (F := []) (G := [row A43 ((layr ds11 d ds11.length).length) c44 (ci .i64 (layr ds11 d ds11.length)) 3 1, row A40 ((layr ds11 d ds11.length).length) c41 (ci .i64 (layr ds11 d ds11.length)) 3 1, row A15 ds11.length c16 (ci .i64 ds11) 3 1]) HS
                replace HS : St W (owns []) W52 [row A43 ((layr ds11 d ds11.length).length) c44 (ci .i64 (layr ds11 d ds11.length)) 3 1, row A40 ((layr ds11 d ds11.length).length) c41 (ci .i64 (layr ds11 d ds11.length)) 3 1, row A15 ds11.length c16 (ci .i64 ds11) 3 1, blk g7 [.int .i64 0, .int .i64 0, .int .i64 0, .int .i64 0, .int .i64 0, .int .i64 0, .int .i64 (0 + ((k : Nat) : Int))] 51] := HB6.join (F := []) (G := [row A43 ((layr ds11 d ds11.length).length) c44 (ci .i64 (layr ds11 d ds11.length)) 3 1, row A40 ((layr ds11 d ds11.length).length) c41 (ci .i64 (layr ds11 d ds11.length)) 3 1, row A15 ds11.length c16 (ci .i64 ds11) 3 1, blk g7 [.int .i64 0, .int .i64 0, .int .i64 0, .int .i64 0, .int .i64 0, .int .i64 0, .int .i64 (0 + ((k : Nat) : Int))] 51]) HS
                exact ⟨rfl, HS.tail (F := [row A43 ((layr ds11 d ds11.length).length) c44 (ci .i64 (layr ds11 d ds11.length)) 3 1, row A40 ((layr ds11 d ds11.length).length) c41 (ci .i64 (layr ds11 d ds11.length)) 3 1, row A15 ds11.length c16 (ci .i64 ds11) 3 1, blk g7 [.int .i64 0, .int .i64 0, .int .i64 0, .int .i64 0, .int .i64 0, .int .i64 0, .int .i64 (0 + ((k : Nat) : Int))] 51])⟩
            · skip
              refine ql (.bool false) (by kernel_rfl) (R_nbool (p := no ≥ (0 : Int)) (by kernel_rfl) (hc47)) ?_
              refine ql (.bool false) (by kernel_rfl) (by kernel_rfl) ?_
              refine qln (by kernel_rfl) ?_
              refine qln (by kernel_rfl) ?_
              refine qln (by kernel_rfl) ?_
              refine ql (.bool false) (by kernel_rfl) (by kernel_rfl) ?_
              refine ql (.bool false) (by kernel_rfl) (by kernel_rfl) ?_
              refine ql (.pointer (some ⟨t9, 0, none⟩)) (by kernel_rfl) (by kernel_rfl) ?_
              refine ql (.int .i64 no) (by kernel_rfl) (by kernel_rfl) ?_
              refine qc (f := 31) (args := #[.pointer (some ⟨t9, 0, none⟩), .int .i64 no]) (by kernel_rfl) (R_call #[.pointer (some ⟨t9, 0, none⟩), .int .i64 no] Try.func31 (by kernel_rfl) (by kernel_rfl) (by kernel_rfl)) ?_
              refine (tdist_n t9 ds11 bs12 _ (hTh10.below (HS.kept.below owns_nil)) no (by have h_ := hDh10.ld; omega)).mono ?_
              rintro e W53 ⟨rfl, H_⟩
              refine ⟨_, rfl, ?_⟩
              replace HS : St W17 (owns []) W53 [row A43 ((layr ds11 d ds11.length).length) c44 (ci .i64 (layr ds11 d ds11.length)) 3 1, row A40 ((layr ds11 d ds11.length).length) c41 (ci .i64 (layr ds11 d ds11.length)) 3 1] := HS.join (F := []) (G := []) H_
              clear H_
              refine ql (.bool true) (by kernel_rfl) (R_beq (b := ((-1 : Int) == -1)) (by kernel_rfl) (by decide)) ?_
              refine ql (.bool true) (by kernel_rfl) (by kernel_rfl) ?_
              refine ql (.pointer (some ⟨t9, 0, none⟩)) (by kernel_rfl) (by kernel_rfl) ?_
              refine ql (.int .i64 no) (by kernel_rfl) (by kernel_rfl) ?_
              refine qc (f := 34) (args := #[.pointer (some ⟨t9, 0, none⟩), .int .i64 no]) (by kernel_rfl) (R_call #[.pointer (some ⟨t9, 0, none⟩), .int .i64 no] Try.func34 (by kernel_rfl) (by kernel_rfl) (by kernel_rfl)) ?_
              refine (tback_n t9 ds11 bs12 _ (hTh10.below (HS.kept.below owns_nil)) no (by have h_ := hDh10.ld; omega)).mono ?_
              rintro e W54 ⟨rfl, H_⟩
              refine ⟨_, rfl, ?_⟩
              replace HS : St W17 (owns []) W54 [row A43 ((layr ds11 d ds11.length).length) c44 (ci .i64 (layr ds11 d ds11.length)) 3 1, row A40 ((layr ds11 d ds11.length).length) c41 (ci .i64 (layr ds11 d ds11.length)) 3 1] := HS.join (F := []) (G := []) H_
              clear H_
              refine ql (.bool true) (by kernel_rfl) (R_beq (b := ((-1 : Int) == -1)) (by kernel_rfl) (by decide)) ?_
              refine ql (.bool true) (by kernel_rfl) (by kernel_rfl) ?_
              refine ql (.bool true) (by kernel_rfl) (by kernel_rfl) ?_
              refine ql (.bool true) (by kernel_rfl) (by kernel_rfl) ?_
              refine ql (.bool true) (by kernel_rfl) (by kernel_rfl) ?_
              refine qc (f := 29) (args := #[]) (by kernel_rfl) (R_call #[] Try.func29 (by kernel_rfl) (by kernel_rfl) (by kernel_rfl)) ?_
              refine (awake13 _).mono ?_
              rintro e W55 ⟨rfl, H_⟩
              refine ⟨_, rfl, ?_⟩
              replace HS : St W17 (owns []) W55 [row A43 ((layr ds11 d ds11.length).length) c44 (ci .i64 (layr ds11 d ds11.length)) 3 1, row A40 ((layr ds11 d ds11.length).length) c41 (ci .i64 (layr ds11 d ds11.length)) 3 1] := HS.join (F := []) (G := []) H_
              clear H_
              refine ql (.bool true) (by kernel_rfl) (by kernel_rfl) ?_
              refine ql (.bool true) (by kernel_rfl) (by kernel_rfl) ?_
              refine wpList_nil ?_
              refine x_then ?_
              refine wp_ret ?_
              refine ret_ (.bool true) (by kernel_rfl) ?_
              replace HS : St W13 (owns []) W55 [row A43 ((layr ds11 d ds11.length).length) c44 (ci .i64 (layr ds11 d ds11.length)) 3 1, row A40 ((layr ds11 d ds11.length).length) c41 (ci .i64 (layr ds11 d ds11.length)) 3 1, row A15 ds11.length c16 (ci .i64 ds11) 3 1] := HB18.join (F := []) (G := [row A43 ((layr ds11 d ds11.length).length) c44 (ci .i64 (layr ds11 d ds11.length)) 3 1, row A40 ((layr ds11 d ds11.length).length) c41 (ci .i64 (layr ds11 d ds11.length)) 3 1]) HS
              replace HS : St W5 (owns []) W55 [row A43 ((layr ds11 d ds11.length).length) c44 (ci .i64 (layr ds11 d ds11.length)) 3 1, row A40 ((layr ds11 d ds11.length).length) c41 (ci .i64 (layr ds11 d ds11.length)) 3 1, row A15 ds11.length c16 (ci .i64 ds11) 3 1, blk g7 [.int .i64 0, .int .i64 0, .int .i64 0, .int .i64 0, .int .i64 0, .int .i64 0, .int .i64 (0 + ((k : Nat) : Int))] 51] := HB14.join (F := []) (G := [row A43 ((layr ds11 d ds11.length).length) c44 (ci .i64 (layr ds11 d ds11.length)) 3 1, row A40 ((layr ds11 d ds11.length).length) c41 (ci .i64 (layr ds11 d ds11.length)) 3 1, row A15 ds11.length c16 (ci .i64 ds11) 3 1]) HS
              replace HS : St W (owns []) W55 [row A43 ((layr ds11 d ds11.length).length) c44 (ci .i64 (layr ds11 d ds11.length)) 3 1, row A40 ((layr ds11 d ds11.length).length) c41 (ci .i64 (layr ds11 d ds11.length)) 3 1, row A15 ds11.length c16 (ci .i64 ds11) 3 1, blk g7 [.int .i64 0, .int .i64 0, .int .i64 0, .int .i64 0, .int .i64 0, .int .i64 0, .int .i64 (0 + ((k : Nat) : Int))] 51] := HB6.join (F := []) (G := [row A43 ((layr ds11 d ds11.length).length) c44 (ci .i64 (layr ds11 d ds11.length)) 3 1, row A40 ((layr ds11 d ds11.length).length) c41 (ci .i64 (layr ds11 d ds11.length)) 3 1, row A15 ds11.length c16 (ci .i64 ds11) 3 1, blk g7 [.int .i64 0, .int .i64 0, .int .i64 0, .int .i64 0, .int .i64 0, .int .i64 0, .int .i64 (0 + ((k : Nat) : Int))] 51]) HS
              exact ⟨rfl, HS.tail (F := [row A43 ((layr ds11 d ds11.length).length) c44 (ci .i64 (layr ds11 d ds11.length)) 3 1, row A40 ((layr ds11 d ds11.length).length) c41 (ci .i64 (layr ds11 d ds11.length)) 3 1, row A15 ds11.length c16 (ci .i64 ds11) 3 1, blk g7 [.int .i64 0, .int .i64 0, .int .i64 0, .int .i64 0, .int .i64 0, .int .i64 0, .int .i64 (0 + ((k : Nat) : Int))] 51])⟩
          · skip
            refine (tlayer_n t9 ds11 bs12 _ (hTh10.below (HS.kept.below owns_nil)) d (by omega)).mono ?_
            rintro e W56 ⟨rfl, H_⟩
            refine ⟨_, rfl, ?_⟩
            replace HS : St W17 (owns []) W56 [] := HS.join (F := []) (G := []) H_
            clear H_
            refine ql (.slice A15 ds11.length c16) (by kernel_rfl) (by kernel_rfl) ?_
            refine ql (.int .i64 d) (by kernel_rfl) (by kernel_rfl) ?_
            refine qc (f := 39) (args := #[.slice A15 ds11.length c16, .int .i64 d]) (by kernel_rfl) (R_call #[.slice A15 ds11.length c16, .int .i64 d] Try.func39 (by kernel_rfl) (by kernel_rfl) (by kernel_rfl)) ?_
            refine (rlayer_neg _ _ ds11 d _ (hr19.old0 HS) (by omega) (by omega)).mono ?_
            rintro e W59 ⟨A57, c58, rfl, H_⟩
            refine ⟨_, rfl, ?_⟩
            replace HS : St W17 (owns []) W59 [row A57 ((([] : List Int)).length) c58 (ci .i64 ([] : List Int)) 3 1] := HS.join (F := []) (G := [row A57 ((([] : List Int)).length) c58 (ci .i64 ([] : List Int)) 3 1]) H_
            clear H_
            refine qc (f := 23) (args := #[.slice none 0 0, .slice A57 ((([] : List Int)).length) c58]) (by kernel_rfl) (R_call #[.slice none 0 0, .slice A57 ((([] : List Int)).length) c58] Try.func23 (by kernel_rfl) (by kernel_rfl) (by kernel_rfl)) ?_
            refine (same_eq _ _ _ _ ([]) ([] : List Int) _ (by rfl) (Rd_nil _ _) (Rd.row HS (i := 0) rfl) (by first | omega | simp)).mono ?_
            rintro e W60 ⟨rfl, H_⟩
            refine ⟨_, rfl, ?_⟩
            replace HS : St W17 (owns []) W60 [row A57 ((([] : List Int)).length) c58 (ci .i64 ([] : List Int)) 3 1] := HS.join (F := []) (G := []) H_
            clear H_
            refine ql (.bool true) (by kernel_rfl) (by kernel_rfl) ?_
            refine ql (.bool true) (by kernel_rfl) (by kernel_rfl) ?_
            refine ql (.int .i64 no) (by kernel_rfl) (by kernel_rfl) ?_
            by_cases hc61 : no ≥ (0 : Int)
            · skip
              refine ql (.bool true) (by kernel_rfl) (R_bool (p := no ≥ (0 : Int)) (by kernel_rfl) (hc61)) ?_
              refine ql (.bool true) (by kernel_rfl) (by kernel_rfl) ?_
              refine ql (.int .i64 no) (by kernel_rfl) (by kernel_rfl) ?_
              refine ql (.int .i64 (N : Int)) (by kernel_rfl) (by kernel_rfl) ?_
              by_cases hc62 : no < (N : Int)
              · skip
                refine ql (.bool true) (by kernel_rfl) (R_bool (p := no < (N : Int)) (by kernel_rfl) (hc62)) ?_
                refine ql (.bool true) (by kernel_rfl) (by kernel_rfl) ?_
                refine ql (.bool true) (by kernel_rfl) (by kernel_rfl) ?_
                refine qln (by kernel_rfl) ?_
                refine qln (by kernel_rfl) ?_
                refine qln (by kernel_rfl) ?_
                refine qln (by kernel_rfl) ?_
                refine qln (by kernel_rfl) ?_
                refine qln (by kernel_rfl) ?_
                refine qln (by kernel_rfl) ?_
                refine qln (by kernel_rfl) ?_
                refine qln (by kernel_rfl) ?_
                refine qln (by kernel_rfl) ?_
                refine ql (.bool true) (by kernel_rfl) (by kernel_rfl) ?_
                refine ql (.bool true) (by kernel_rfl) (by kernel_rfl) ?_
                refine ql (.bool true) (by kernel_rfl) (by kernel_rfl) ?_
                refine qc (f := 29) (args := #[]) (by kernel_rfl) (R_call #[] Try.func29 (by kernel_rfl) (by kernel_rfl) (by kernel_rfl)) ?_
                refine (awake13 _).mono ?_
                rintro e W63 ⟨rfl, H_⟩
                refine ⟨_, rfl, ?_⟩
                replace HS : St W17 (owns []) W63 [row A57 ((([] : List Int)).length) c58 (ci .i64 ([] : List Int)) 3 1] := HS.join (F := []) (G := []) H_
                clear H_
                refine ql (.bool true) (by kernel_rfl) (by kernel_rfl) ?_
                refine ql (.bool true) (by kernel_rfl) (by kernel_rfl) ?_
                refine wpList_nil ?_
                refine x_then ?_
                refine wp_ret ?_
                refine ret_ (.bool true) (by kernel_rfl) ?_
                replace HS : St W13 (owns []) W63 [row A57 ((([] : List Int)).length) c58 (ci .i64 ([] : List Int)) 3 1, row A15 ds11.length c16 (ci .i64 ds11) 3 1] := HB18.join (F := []) (G := [row A57 ((([] : List Int)).length) c58 (ci .i64 ([] : List Int)) 3 1]) HS
                replace HS : St W5 (owns []) W63 [row A57 ((([] : List Int)).length) c58 (ci .i64 ([] : List Int)) 3 1, row A15 ds11.length c16 (ci .i64 ds11) 3 1, blk g7 [.int .i64 0, .int .i64 0, .int .i64 0, .int .i64 0, .int .i64 0, .int .i64 0, .int .i64 (0 + ((k : Nat) : Int))] 51] := HB14.join (F := []) (G := [row A57 ((([] : List Int)).length) c58 (ci .i64 ([] : List Int)) 3 1, row A15 ds11.length c16 (ci .i64 ds11) 3 1]) HS
                replace HS : St W (owns []) W63 [row A57 ((([] : List Int)).length) c58 (ci .i64 ([] : List Int)) 3 1, row A15 ds11.length c16 (ci .i64 ds11) 3 1, blk g7 [.int .i64 0, .int .i64 0, .int .i64 0, .int .i64 0, .int .i64 0, .int .i64 0, .int .i64 (0 + ((k : Nat) : Int))] 51] := HB6.join (F := []) (G := [row A57 ((([] : List Int)).length) c58 (ci .i64 ([] : List Int)) 3 1, row A15 ds11.length c16 (ci .i64 ds11) 3 1, blk g7 [.int .i64 0, .int .i64 0, .int .i64 0, .int .i64 0, .int .i64 0, .int .i64 0, .int .i64 (0 + ((k : Nat) : Int))] 51]) HS
                exact ⟨rfl, HS.tail (F := [row A57 ((([] : List Int)).length) c58 (ci .i64 ([] : List Int)) 3 1, row A15 ds11.length c16 (ci .i64 ds11) 3 1, blk g7 [.int .i64 0, .int .i64 0, .int .i64 0, .int .i64 0, .int .i64 0, .int .i64 0, .int .i64 (0 + ((k : Nat) : Int))] 51])⟩
              · skip
                refine ql (.bool false) (by kernel_rfl) (R_nbool (p := no < (N : Int)) (by kernel_rfl) (hc62)) ?_
                refine ql (.bool false) (by kernel_rfl) (by kernel_rfl) ?_
                refine ql (.bool false) (by kernel_rfl) (by kernel_rfl) ?_
                refine ql (.pointer (some ⟨t9, 0, none⟩)) (by kernel_rfl) (by kernel_rfl) ?_
                refine ql (.int .i64 no) (by kernel_rfl) (by kernel_rfl) ?_
                refine qc (f := 31) (args := #[.pointer (some ⟨t9, 0, none⟩), .int .i64 no]) (by kernel_rfl) (R_call #[.pointer (some ⟨t9, 0, none⟩), .int .i64 no] Try.func31 (by kernel_rfl) (by kernel_rfl) (by kernel_rfl)) ?_
                refine (tdist_n t9 ds11 bs12 _ (hTh10.below (HS.kept.below owns_nil)) no (by have h_ := hDh10.ld; omega)).mono ?_
                rintro e W64 ⟨rfl, H_⟩
                refine ⟨_, rfl, ?_⟩
                replace HS : St W17 (owns []) W64 [row A57 ((([] : List Int)).length) c58 (ci .i64 ([] : List Int)) 3 1] := HS.join (F := []) (G := []) H_
                clear H_
                refine ql (.bool true) (by kernel_rfl) (R_beq (b := ((-1 : Int) == -1)) (by kernel_rfl) (by decide)) ?_
                refine ql (.bool true) (by kernel_rfl) (by kernel_rfl) ?_
                refine ql (.pointer (some ⟨t9, 0, none⟩)) (by kernel_rfl) (by kernel_rfl) ?_
                refine ql (.int .i64 no) (by kernel_rfl) (by kernel_rfl) ?_
                refine qc (f := 34) (args := #[.pointer (some ⟨t9, 0, none⟩), .int .i64 no]) (by kernel_rfl) (R_call #[.pointer (some ⟨t9, 0, none⟩), .int .i64 no] Try.func34 (by kernel_rfl) (by kernel_rfl) (by kernel_rfl)) ?_
                refine (tback_n t9 ds11 bs12 _ (hTh10.below (HS.kept.below owns_nil)) no (by have h_ := hDh10.ld; omega)).mono ?_
                rintro e W65 ⟨rfl, H_⟩
                refine ⟨_, rfl, ?_⟩
                replace HS : St W17 (owns []) W65 [row A57 ((([] : List Int)).length) c58 (ci .i64 ([] : List Int)) 3 1] := HS.join (F := []) (G := []) H_
                clear H_
                refine ql (.bool true) (by kernel_rfl) (R_beq (b := ((-1 : Int) == -1)) (by kernel_rfl) (by decide)) ?_
                refine ql (.bool true) (by kernel_rfl) (by kernel_rfl) ?_
                refine ql (.bool true) (by kernel_rfl) (by kernel_rfl) ?_
                refine ql (.bool true) (by kernel_rfl) (by kernel_rfl) ?_
                refine ql (.bool true) (by kernel_rfl) (by kernel_rfl) ?_
                refine qc (f := 29) (args := #[]) (by kernel_rfl) (R_call #[] Try.func29 (by kernel_rfl) (by kernel_rfl) (by kernel_rfl)) ?_
                refine (awake13 _).mono ?_
                rintro e W66 ⟨rfl, H_⟩
                refine ⟨_, rfl, ?_⟩
                replace HS : St W17 (owns []) W66 [row A57 ((([] : List Int)).length) c58 (ci .i64 ([] : List Int)) 3 1] := HS.join (F := []) (G := []) H_
                clear H_
                refine ql (.bool true) (by kernel_rfl) (by kernel_rfl) ?_
                refine ql (.bool true) (by kernel_rfl) (by kernel_rfl) ?_
                refine wpList_nil ?_
                refine x_then ?_
                refine wp_ret ?_
                refine ret_ (.bool true) (by kernel_rfl) ?_
                replace HS : St W13 (owns []) W66 [row A57 ((([] : List Int)).length) c58 (ci .i64 ([] : List Int)) 3 1, row A15 ds11.length c16 (ci .i64 ds11) 3 1] := HB18.join (F := []) (G := [row A57 ((([] : List Int)).length) c58 (ci .i64 ([] : List Int)) 3 1]) HS
                replace HS : St W5 (owns []) W66 [row A57 ((([] : List Int)).length) c58 (ci .i64 ([] : List Int)) 3 1, row A15 ds11.length c16 (ci .i64 ds11) 3 1, blk g7 [.int .i64 0, .int .i64 0, .int .i64 0, .int .i64 0, .int .i64 0, .int .i64 0, .int .i64 (0 + ((k : Nat) : Int))] 51] := HB14.join (F := []) (G := [row A57 ((([] : List Int)).length) c58 (ci .i64 ([] : List Int)) 3 1, row A15 ds11.length c16 (ci .i64 ds11) 3 1]) HS
                replace HS : St W (owns []) W66 [row A57 ((([] : List Int)).length) c58 (ci .i64 ([] : List Int)) 3 1, row A15 ds11.length c16 (ci .i64 ds11) 3 1, blk g7 [.int .i64 0, .int .i64 0, .int .i64 0, .int .i64 0, .int .i64 0, .int .i64 0, .int .i64 (0 + ((k : Nat) : Int))] 51] := HB6.join (F := []) (G := [row A57 ((([] : List Int)).length) c58 (ci .i64 ([] : List Int)) 3 1, row A15 ds11.length c16 (ci .i64 ds11) 3 1, blk g7 [.int .i64 0, .int .i64 0, .int .i64 0, .int .i64 0, .int .i64 0, .int .i64 0, .int .i64 (0 + ((k : Nat) : Int))] 51]) HS
                exact ⟨rfl, HS.tail (F := [row A57 ((([] : List Int)).length) c58 (ci .i64 ([] : List Int)) 3 1, row A15 ds11.length c16 (ci .i64 ds11) 3 1, blk g7 [.int .i64 0, .int .i64 0, .int .i64 0, .int .i64 0, .int .i64 0, .int .i64 0, .int .i64 (0 + ((k : Nat) : Int))] 51])⟩
            · skip
              refine ql (.bool false) (by kernel_rfl) (R_nbool (p := no ≥ (0 : Int)) (by kernel_rfl) (hc61)) ?_
              refine ql (.bool false) (by kernel_rfl) (by kernel_rfl) ?_
              refine qln (by kernel_rfl) ?_
              refine qln (by kernel_rfl) ?_
              refine qln (by kernel_rfl) ?_
              refine ql (.bool false) (by kernel_rfl) (by kernel_rfl) ?_
              refine ql (.bool false) (by kernel_rfl) (by kernel_rfl) ?_
              refine ql (.pointer (some ⟨t9, 0, none⟩)) (by kernel_rfl) (by kernel_rfl) ?_
              refine ql (.int .i64 no) (by kernel_rfl) (by kernel_rfl) ?_
              refine qc (f := 31) (args := #[.pointer (some ⟨t9, 0, none⟩), .int .i64 no]) (by kernel_rfl) (R_call #[.pointer (some ⟨t9, 0, none⟩), .int .i64 no] Try.func31 (by kernel_rfl) (by kernel_rfl) (by kernel_rfl)) ?_
              refine (tdist_n t9 ds11 bs12 _ (hTh10.below (HS.kept.below owns_nil)) no (by have h_ := hDh10.ld; omega)).mono ?_
              rintro e W67 ⟨rfl, H_⟩
              refine ⟨_, rfl, ?_⟩
              replace HS : St W17 (owns []) W67 [row A57 ((([] : List Int)).length) c58 (ci .i64 ([] : List Int)) 3 1] := HS.join (F := []) (G := []) H_
              clear H_
              refine ql (.bool true) (by kernel_rfl) (R_beq (b := ((-1 : Int) == -1)) (by kernel_rfl) (by decide)) ?_
              refine ql (.bool true) (by kernel_rfl) (by kernel_rfl) ?_
              refine ql (.pointer (some ⟨t9, 0, none⟩)) (by kernel_rfl) (by kernel_rfl) ?_
              refine ql (.int .i64 no) (by kernel_rfl) (by kernel_rfl) ?_
              refine qc (f := 34) (args := #[.pointer (some ⟨t9, 0, none⟩), .int .i64 no]) (by kernel_rfl) (R_call #[.pointer (some ⟨t9, 0, none⟩), .int .i64 no] Try.func34 (by kernel_rfl) (by kernel_rfl) (by kernel_rfl)) ?_
              refine (tback_n t9 ds11 bs12 _ (hTh10.below (HS.kept.below owns_nil)) no (by have h_ := hDh10.ld; omega)).mono ?_
              rintro e W68 ⟨rfl, H_⟩
              refine ⟨_, rfl, ?_⟩
              replace HS : St W17 (owns []) W68 [row A57 ((([] : List Int)).length) c58 (ci .i64 ([] : List Int)) 3 1] := HS.join (F := []) (G := []) H_
              clear H_
              refine ql (.bool true) (by kernel_rfl) (R_beq (b := ((-1 : Int) == -1)) (by kernel_rfl) (by decide)) ?_
              refine ql (.bool true) (by kernel_rfl) (by kernel_rfl) ?_
              refine ql (.bool true) (by kernel_rfl) (by kernel_rfl) ?_
              refine ql (.bool true) (by kernel_rfl) (by kernel_rfl) ?_
              refine ql (.bool true) (by kernel_rfl) (by kernel_rfl) ?_
              refine qc (f := 29) (args := #[]) (by kernel_rfl) (R_call #[] Try.func29 (by kernel_rfl) (by kernel_rfl) (by kernel_rfl)) ?_
              refine (awake13 _).mono ?_
              rintro e W69 ⟨rfl, H_⟩
              refine ⟨_, rfl, ?_⟩
              replace HS : St W17 (owns []) W69 [row A57 ((([] : List Int)).length) c58 (ci .i64 ([] : List Int)) 3 1] := HS.join (F := []) (G := []) H_
              clear H_
              refine ql (.bool true) (by kernel_rfl) (by kernel_rfl) ?_
              refine ql (.bool true) (by kernel_rfl) (by kernel_rfl) ?_
              refine wpList_nil ?_
              refine x_then ?_
              refine wp_ret ?_
              refine ret_ (.bool true) (by kernel_rfl) ?_
              replace HS : St W13 (owns []) W69 [row A57 ((([] : List Int)).length) c58 (ci .i64 ([] : List Int)) 3 1, row A15 ds11.length c16 (ci .i64 ds11) 3 1] := HB18.join (F := []) (G := [row A57 ((([] : List Int)).length) c58 (ci .i64 ([] : List Int)) 3 1]) HS
              replace HS : St W5 (owns []) W69 [row A57 ((([] : List Int)).length) c58 (ci .i64 ([] : List Int)) 3 1, row A15 ds11.length c16 (ci .i64 ds11) 3 1, blk g7 [.int .i64 0, .int .i64 0, .int .i64 0, .int .i64 0, .int .i64 0, .int .i64 0, .int .i64 (0 + ((k : Nat) : Int))] 51] := HB14.join (F := []) (G := [row A57 ((([] : List Int)).length) c58 (ci .i64 ([] : List Int)) 3 1, row A15 ds11.length c16 (ci .i64 ds11) 3 1]) HS
              replace HS : St W (owns []) W69 [row A57 ((([] : List Int)).length) c58 (ci .i64 ([] : List Int)) 3 1, row A15 ds11.length c16 (ci .i64 ds11) 3 1, blk g7 [.int .i64 0, .int .i64 0, .int .i64 0, .int .i64 0, .int .i64 0, .int .i64 0, .int .i64 (0 + ((k : Nat) : Int))] 51] := HB6.join (F := []) (G := [row A57 ((([] : List Int)).length) c58 (ci .i64 ([] : List Int)) 3 1, row A15 ds11.length c16 (ci .i64 ds11) 3 1, blk g7 [.int .i64 0, .int .i64 0, .int .i64 0, .int .i64 0, .int .i64 0, .int .i64 0, .int .i64 (0 + ((k : Nat) : Int))] 51]) HS
              exact ⟨rfl, HS.tail (F := [row A57 ((([] : List Int)).length) c58 (ci .i64 ([] : List Int)) 3 1, row A15 ds11.length c16 (ci .i64 ds11) 3 1, blk g7 [.int .i64 0, .int .i64 0, .int .i64 0, .int .i64 0, .int .i64 0, .int .i64 0, .int .i64 (0 + ((k : Nat) : Int))] 51])⟩
      · refine ⟨_, rfl, ?_⟩
        replace HS : St W (owns []) W5 [] := HS.join (F := []) (G := []) H_
        clear H_
        refine ql (.tuple #[.pointer none, .int .i64 (chk n arcs)]) (by kernel_rfl) (by kernel_rfl) ?_
        refine ql (.pointer none) (by kernel_rfl) (by kernel_rfl) ?_
        refine ql (.int .i64 (chk n arcs)) (by kernel_rfl) (by kernel_rfl) ?_
        refine ql (.pointer none) (by kernel_rfl) (by kernel_rfl) ?_
        refine ql (.int .i64 (chk n arcs)) (by kernel_rfl) (by kernel_rfl) ?_
        refine wpList_nil ?_
        refine x_then ?_
        refine wp_seq ?_
        refine wp_seq ?_
        refine wp_region_lit ?_
        refine ql (.int .i64 (chk n arcs)) (by kernel_rfl) (by kernel_rfl) ?_
        refine ql (.bool true) (by kernel_rfl) (R_beq (b := (chk n arcs != (0 : Int))) (by kernel_rfl) (bne_t (by omega))) ?_
        refine wpList_nil ?_
        refine x_then ?_
        refine wp_cond_true (by kernel_rfl) ?_
        refine wp_seq ?_
        refine wp_region_lit ?_
        refine ql (.pointer none) (by kernel_rfl) (by kernel_rfl) ?_
        refine ql (.int .i64 v) (by kernel_rfl) (by kernel_rfl) ?_
        refine qc (f := 30) (args := #[.pointer none, .int .i64 v, .pointer none]) (by kernel_rfl) (R_call #[.pointer none, .int .i64 v, .pointer none] Try.func30 (by kernel_rfl) (by kernel_rfl) (by kernel_rfl)) ?_
        refine (fromN v _).mono ?_
        rintro e W72 ⟨t70, rfl, H_, hTh71⟩
        refine ⟨_, rfl, ?_⟩
        replace HS : St W (owns []) W72 [] := HS.join (F := []) (G := []) H_
        clear H_
        have HB73 := HS
        replace hr := hr.below (HB73.kept.below owns_nil)
        clear HS
        have HS : St W72 (owns []) W72 [] := St.start _ _
        refine ql (.pointer (some ⟨t70, 0, none⟩)) (by kernel_rfl) (by kernel_rfl) ?_
        refine wpList_nil ?_
        refine x_then ?_
        refine wp_seq ?_
        refine wp_region_lit ?_
        refine ql (.pointer (some ⟨t70, 0, none⟩)) (by kernel_rfl) (by kernel_rfl) ?_
        refine qc (f := 32) (args := #[.pointer (some ⟨t70, 0, none⟩)]) (by kernel_rfl) (R_call #[.pointer (some ⟨t70, 0, none⟩)] Try.func32 (by kernel_rfl) (by kernel_rfl) (by kernel_rfl)) ?_
        refine (tfar_ t70 ([]) ([]) _ (hTh71.below (HS.kept.below owns_nil)) (by simp)).mono ?_
        rintro e W74 ⟨rfl, H_⟩
        refine ⟨_, rfl, ?_⟩
        replace HS : St W72 (owns []) W74 [] := HS.join (F := []) (G := []) H_
        clear H_
        refine ql (.bool true) (by kernel_rfl) (R_beq (b := (farth [] == (-1 : Int))) (by kernel_rfl) (beq_t (farth_nil))) ?_
        refine ql (.bool true) (by kernel_rfl) (by kernel_rfl) ?_
        refine ql (.pointer (some ⟨t70, 0, none⟩)) (by kernel_rfl) (by kernel_rfl) ?_
        refine ql (.int .i64 v) (by kernel_rfl) (by kernel_rfl) ?_
        refine qc (f := 31) (args := #[.pointer (some ⟨t70, 0, none⟩), .int .i64 v]) (by kernel_rfl) (R_call #[.pointer (some ⟨t70, 0, none⟩), .int .i64 v] Try.func31 (by kernel_rfl) (by kernel_rfl) (by kernel_rfl)) ?_
        refine (tdist_n t70 ([]) ([]) _ (hTh71.below (HS.kept.below owns_nil)) v (by simp only [List.length_nil]; omega)).mono ?_
        rintro e W75 ⟨rfl, H_⟩
        refine ⟨_, rfl, ?_⟩
        replace HS : St W72 (owns []) W75 [] := HS.join (F := []) (G := []) H_
        clear H_
        refine ql (.bool true) (by kernel_rfl) (R_beq (b := ((-1 : Int) == -1)) (by kernel_rfl) (by decide)) ?_
        refine ql (.bool true) (by kernel_rfl) (by kernel_rfl) ?_
        refine ql (.bool true) (by kernel_rfl) (by kernel_rfl) ?_
        refine qc (f := 29) (args := #[]) (by kernel_rfl) (R_call #[] Try.func29 (by kernel_rfl) (by kernel_rfl) (by kernel_rfl)) ?_
        refine (awake13 _).mono ?_
        rintro e W76 ⟨rfl, H_⟩
        refine ⟨_, rfl, ?_⟩
        replace HS : St W72 (owns []) W76 [] := HS.join (F := []) (G := []) H_
        clear H_
        refine ql (.bool true) (by kernel_rfl) (by kernel_rfl) ?_
        refine ql (.bool true) (by kernel_rfl) (by kernel_rfl) ?_
        refine wpList_nil ?_
        refine x_then ?_
        refine wp_ret ?_
        refine x_thenR ?_
        refine ret_ (.bool true) (by kernel_rfl) ?_
        replace HS : St W (owns []) W76 [] := HB73.join (F := []) (G := []) HS
        exact ⟨rfl, HS.tail (F := [])⟩

end Go.Proofs.Ythfpdpjccnnlhaa.GBfsTells
