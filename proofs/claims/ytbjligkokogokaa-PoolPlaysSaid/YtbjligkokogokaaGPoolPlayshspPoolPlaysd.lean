/- Written for this claim by gp.py, a program of this session's, over the kit's print. Lean checks it. -/
import Derived.Test.YtbjligkokogokaaGPoolPlaysx0
import Derived.Test.YtbjligkokogokaaGPoolPlayshx
import Derived.Test.YtbjligkokogokaaGPoolPlayshspPoolPlaysa
import Derived.Test.YtbjligkokogokaaGPoolPlayshspPoolPlaysb
import Derived.Test.YtbjligkokogokaaGPoolPlayshspPoolPlaysc
import Derived.WalkKit
import Derived.StillTailTactics
import Derived.Deep.LoopGhost
import Derived.KernelRfl
import Derived.Deep.OwnRows
import Derived.Laws.OwnMore
import Derived.Laws.MakeOwn
import Derived.Maps.AppendAt
import Derived.OrdersHeld
namespace Go.Proofs.Ytbjligkokogokaa.GPoolPlays
open Go.RowKit Go.Proofs.YtbjligkokogokaaW.PrintWords Go.Proofs.YtbjligkokogokaaW.PrintLast Go.Proofs.YtbjligkokogokaaW.PrintMore
attribute [local go_sem] max2_int min2_int max_two min_two max_three min_three max_four min_four   -- for this text's walks alone
set_option linter.unusedVariables false
set_option linter.unusedSimpArgs false

--import Derived.WalkKit
--import Derived.StillTailTactics
--import Derived.Deep.LoopGhost
--import Derived.KernelRfl
--import Derived.Deep.OwnRows
--import Derived.Laws.OwnMore
--import Derived.Laws.MakeOwn
--import Derived.Maps.AppendAt
--import Derived.OrdersHeld
attribute [local irreducible] wpStill wpList Code.wp TA
set_option maxRecDepth 100000 in
set_option maxHeartbeats 1000000 in
theorem pp_main (ca cb : Nat) (L : Option Addr) (e : Nat) (acts : List (Int × Int)) (W : World) (hr : Rd W L (cf actC acts)) (ha0 : 1 ≤ ca) (ha : ca ≤ 1000) (hb0 : 1 ≤ cb) (hb : cb ≤ 1000) (hl : acts.length ≤ 60) : Calls Try.prog 3 #[.int .i64 (ca : Int), .int .i64 (cb : Int), .slice L acts.length e] W fun e W' => e = .returned (.bool true) ∧ St W (owns []) W' [] := by
  have HS : St W (owns []) W [] := St.start W _
  refine calls_enter ((.int .i64 (ca : Int)) :: (.int .i64 (cb : Int)) :: (.slice L acts.length e) :: undef :: undef :: undef :: undef :: undef :: undef :: undef :: undef :: undef :: undef :: undef :: undef :: undef :: undef :: undef :: undef :: undef :: undef :: undef :: undef :: undef :: undef :: undef :: undef :: undef :: undef :: undef :: undef :: undef :: undef :: undef :: undef :: undef :: undef :: undef :: undef :: undef :: undef :: undef :: undef :: undef :: undef :: undef :: undef :: undef :: undef :: undef :: undef :: undef :: undef :: undef :: undef :: undef :: undef :: undef :: undef :: undef :: undef :: undef :: undef :: undef :: undef :: undef :: undef :: undef :: undef :: undef :: undef :: undef :: undef :: undef :: undef :: undef :: undef :: undef :: undef :: undef :: undef :: undef :: undef :: undef :: undef :: undef :: undef :: undef :: undef :: undef :: undef :: undef :: undef :: undef :: undef :: undef :: undef :: undef :: undef :: undef :: undef :: undef :: undef :: undef :: undef :: undef :: undef :: undef :: undef :: undef :: undef :: undef :: undef :: undef :: undef :: undef :: undef :: undef :: undef :: undef :: undef :: undef :: undef :: undef :: undef :: undef :: undef :: undef :: undef :: undef :: undef :: undef :: undef :: undef :: undef :: undef :: undef :: undef :: undef :: undef :: undef :: undef :: undef :: undef :: undef :: undef :: undef :: undef :: undef :: undef :: undef :: undef :: undef :: undef :: undef :: undef :: undef :: undef :: undef :: undef :: undef :: []) Try.func3 rfl (by kernel_rfl) ?_
  refine wp_seq ?_
  refine wp_region_lit ?_
  refine ql (.bool false) (by kernel_rfl) (by kernel_rfl) ?_
  refine wpList_nil ?_
  refine x_then ?_
  refine wp_seq ?_
  refine wp_seq ?_
  refine wp_region_lit ?_
  refine ql (.int .i64 (ca : Int)) (by kernel_rfl) (by kernel_rfl) ?_
  refine ql (.bool false) (by kernel_rfl) (R_nbool (p := (ca : Int) > (1000 : Int)) (by kernel_rfl) (by omega)) ?_
  refine ql (.bool false) (by kernel_rfl) (by kernel_rfl) ?_
  refine qln (by kernel_rfl) ?_
  refine qln (by kernel_rfl) ?_
  refine ql (.bool false) (by kernel_rfl) (by kernel_rfl) ?_
  refine ql (.bool false) (by kernel_rfl) (by kernel_rfl) ?_
  refine ql (.int .i64 (cb : Int)) (by kernel_rfl) (by kernel_rfl) ?_
  refine ql (.bool false) (by kernel_rfl) (R_nbool (p := (cb : Int) < (1 : Int)) (by kernel_rfl) (by omega)) ?_
  refine ql (.bool false) (by kernel_rfl) (by kernel_rfl) ?_
  refine ql (.bool false) (by kernel_rfl) (by kernel_rfl) ?_
  refine ql (.int .i64 (cb : Int)) (by kernel_rfl) (by kernel_rfl) ?_
  refine ql (.bool false) (by kernel_rfl) (R_nbool (p := (cb : Int) > (1000 : Int)) (by kernel_rfl) (by omega)) ?_
  refine ql (.bool false) (by kernel_rfl) (by kernel_rfl) ?_
  refine ql (.bool false) (by kernel_rfl) (by kernel_rfl) ?_
  refine ql (.slice L acts.length e) (by kernel_rfl) (by kernel_rfl) ?_
  refine ql (.int .i64 (acts.length : Int)) (by kernel_rfl) (by kernel_rfl) ?_
  refine ql (.bool false) (by kernel_rfl) (R_nbool (p := (acts.length : Int) > (60 : Int)) (by kernel_rfl) (by omega)) ?_
  refine ql (.bool false) (by kernel_rfl) (by kernel_rfl) ?_
  refine wpList_nil ?_
  refine x_then ?_
  refine wp_cond_false (by kernel_rfl) ?_
  refine wp_skip ?_
  refine x_then ?_
  refine wp_seq ?_
  refine wp_region_lit ?_
  refine ql (.int .i64 (ca : Int)) (by kernel_rfl) (by kernel_rfl) ?_
  refine qc (f := 5) (args := #[.int .i64 (ca : Int)]) (by kernel_rfl) (R_call #[.int .i64 (ca : Int)] Try.func5 (by kernel_rfl) (by kernel_rfl) (by kernel_rfl)) ?_
  refine (pnew_ok ca _ (by omega) (by omega)).mono ?_
  rintro e W1 ⟨g, p, rfl, H_⟩
  refine ⟨_, rfl, ?_⟩
  replace HS : St W (owns []) W1 [blk g [.chan (some p)] 46, chn p ca (([] : List Int).map fun n : Int => Value.int .i64 n)] := HS.join (F := []) (G := [blk g [.chan (some p)] 46, chn p ca (([] : List Int).map fun n : Int => Value.int .i64 n)]) H_
  clear H_
  refine ql (.tuple #[.pointer (some ⟨g, 0, none⟩), .int .i64 0]) (by kernel_rfl) (by kernel_rfl) ?_
  refine ql (.pointer (some ⟨g, 0, none⟩)) (by kernel_rfl) (by kernel_rfl) ?_
  refine ql (.int .i64 0) (by kernel_rfl) (by kernel_rfl) ?_
  refine ql (.pointer (some ⟨g, 0, none⟩)) (by kernel_rfl) (by kernel_rfl) ?_
  refine ql (.int .i64 0) (by kernel_rfl) (by kernel_rfl) ?_
  refine wpList_nil ?_
  refine x_then ?_
  refine wp_seq ?_
  refine wp_region_lit ?_
  refine ql (.int .i64 (cb : Int)) (by kernel_rfl) (by kernel_rfl) ?_
  refine qc (f := 5) (args := #[.int .i64 (cb : Int)]) (by kernel_rfl) (R_call #[.int .i64 (cb : Int)] Try.func5 (by kernel_rfl) (by kernel_rfl) (by kernel_rfl)) ?_
  refine (pnew_ok cb _ (by omega) (by omega)).mono ?_
  rintro e W2 ⟨h, q, rfl, H_⟩
  refine ⟨_, rfl, ?_⟩
  replace HS : St W (owns []) W2 [blk h [.chan (some q)] 46, chn q cb (([] : List Int).map fun n : Int => Value.int .i64 n), blk g [.chan (some p)] 46, chn p ca (([] : List Int).map fun n : Int => Value.int .i64 n)] := HS.join (F := []) (G := [blk h [.chan (some q)] 46, chn q cb (([] : List Int).map fun n : Int => Value.int .i64 n)]) H_
  clear H_
  refine ql (.tuple #[.pointer (some ⟨h, 0, none⟩), .int .i64 0]) (by kernel_rfl) (by kernel_rfl) ?_
  refine ql (.pointer (some ⟨h, 0, none⟩)) (by kernel_rfl) (by kernel_rfl) ?_
  refine ql (.int .i64 0) (by kernel_rfl) (by kernel_rfl) ?_
  refine ql (.pointer (some ⟨h, 0, none⟩)) (by kernel_rfl) (by kernel_rfl) ?_
  refine ql (.int .i64 0) (by kernel_rfl) (by kernel_rfl) ?_
  refine wpList_nil ?_
  refine x_then ?_
  refine wp_seq ?_
  refine wp_seq ?_
  refine wp_region_lit ?_
  refine ql (.int .i64 (ca : Int)) (by kernel_rfl) (by kernel_rfl) ?_
  refine ql (.bool false) (by kernel_rfl) (R_nbool (p := (ca : Int) < (1 : Int)) (by kernel_rfl) (by omega)) ?_
  refine wpList_nil ?_
  refine x_then ?_
  refine wp_cond_false (by kernel_rfl) ?_
  refine wp_skip ?_
  refine x_then ?_
  refine wp_seq ?_
  refine wp_seq ?_
  refine wp_region_lit ?_
  refine ql (.int .i64 (ca : Int)) (by kernel_rfl) (by kernel_rfl) ?_
  refine ql (.bool false) (by kernel_rfl) (R_nbool (p := (ca : Int) > (65536 : Int)) (by kernel_rfl) (by omega)) ?_
  refine wpList_nil ?_
  refine x_then ?_
  refine wp_cond_false (by kernel_rfl) ?_
  refine wp_skip ?_
  refine x_then ?_
  refine wp_seq ?_
  refine wp_seq ?_
  refine wp_region_lit ?_
  refine ql (.pointer (some ⟨g, 0, none⟩)) (by kernel_rfl) (by kernel_rfl) ?_
  refine ql (.bool false) (by kernel_rfl) (by kernel_rfl) ?_
  refine ql (.bool false) (by kernel_rfl) (by kernel_rfl) ?_
  refine ql (.pointer (some ⟨h, 0, none⟩)) (by kernel_rfl) (by kernel_rfl) ?_
  refine ql (.bool false) (by kernel_rfl) (by kernel_rfl) ?_
  refine ql (.bool false) (by kernel_rfl) (by kernel_rfl) ?_
  refine ql (.bool false) (by kernel_rfl) (by kernel_rfl) ?_
  refine ql (.int .i64 0) (by kernel_rfl) (by kernel_rfl) ?_
  refine ql (.bool false) (by kernel_rfl) (R_beq (b := ((0 : Int) != 0)) (by kernel_rfl) (by decide)) ?_
  refine ql (.bool false) (by kernel_rfl) (by kernel_rfl) ?_
  refine ql (.bool false) (by kernel_rfl) (by kernel_rfl) ?_
  refine ql (.int .i64 0) (by kernel_rfl) (by kernel_rfl) ?_
  refine ql (.bool false) (by kernel_rfl) (R_beq (b := ((0 : Int) != 0)) (by kernel_rfl) (by decide)) ?_
  refine ql (.bool false) (by kernel_rfl) (by kernel_rfl) ?_
  refine wpList_nil ?_
  refine x_then ?_
  refine wp_cond_false (by kernel_rfl) ?_
  refine wp_skip ?_
  refine x_then ?_
  refine wp_seq ?_
  refine wp_region_lit ?_
  refine ql (.int .i64 (ca : Int)) (by kernel_rfl) (by kernel_rfl) ?_
  refine ql (.agg #[.slice none 0 0, .int .i64 (ca : Int)]) (by kernel_rfl) (by kernel_rfl) ?_
  refine ql (.int .i64 (cb : Int)) (by kernel_rfl) (by kernel_rfl) ?_
  refine ql (.agg #[.slice none 0 0, .int .i64 (cb : Int)]) (by kernel_rfl) (by kernel_rfl) ?_
  refine kb HS [.slice none 0 0, .int .i64 0] 30 (fun g => .pointer (some ⟨g, 0, none⟩)) (by kernel_rfl) (by kernel_rfl) ?_
  intro g3 W4 H_
  replace HS : St W (owns []) W4 [blk g3 [.slice none 0 0, .int .i64 0] 30, blk h [.chan (some q)] 46, chn q cb (([] : List Int).map fun n : Int => Value.int .i64 n), blk g [.chan (some p)] 46, chn p ca (([] : List Int).map fun n : Int => Value.int .i64 n)] := H_
  clear H_
  refine kb HS [.slice none 0 0, .int .i64 0] 30 (fun g => .pointer (some ⟨g, 0, none⟩)) (by kernel_rfl) (by kernel_rfl) ?_
  intro g5 W6 H_
  replace HS : St W (owns []) W6 [blk g5 [.slice none 0 0, .int .i64 0] 30, blk g3 [.slice none 0 0, .int .i64 0] 30, blk h [.chan (some q)] 46, chn q cb (([] : List Int).map fun n : Int => Value.int .i64 n), blk g [.chan (some p)] 46, chn p ca (([] : List Int).map fun n : Int => Value.int .i64 n)] := H_
  clear H_
  refine ks (v := .agg #[.slice none 0 0, .int .i64 (ca : Int)]) HS 1 rfl (0) [.slice none 0 0, .int .i64 (ca : Int)] (by kernel_rfl) (by kernel_rfl) (by kernel_rfl) (by kernel_rfl) (by kernel_rfl) (one_ (by kernel_rfl)) (Nat.le_of_ble_eq_true rfl) rfl ?_
  intro W7 H_
  replace HS : St W (owns []) W7 [blk g5 [.slice none 0 0, .int .i64 0] 30, blk g3 [.slice none 0 0, .int .i64 (ca : Int)] 30, blk h [.chan (some q)] 46, chn q cb (([] : List Int).map fun n : Int => Value.int .i64 n), blk g [.chan (some p)] 46, chn p ca (([] : List Int).map fun n : Int => Value.int .i64 n)] := H_
  clear H_
  refine ks (v := .agg #[.slice none 0 0, .int .i64 (cb : Int)]) HS 0 rfl (0) [.slice none 0 0, .int .i64 (cb : Int)] (by kernel_rfl) (by kernel_rfl) (by kernel_rfl) (by kernel_rfl) (by kernel_rfl) (one_ (by kernel_rfl)) (Nat.le_of_ble_eq_true rfl) rfl ?_
  intro W8 H_
  replace HS : St W (owns []) W8 [blk g5 [.slice none 0 0, .int .i64 (cb : Int)] 30, blk g3 [.slice none 0 0, .int .i64 (ca : Int)] 30, blk h [.chan (some q)] 46, chn q cb (([] : List Int).map fun n : Int => Value.int .i64 n), blk g [.chan (some p)] 46, chn p ca (([] : List Int).map fun n : Int => Value.int .i64 n)] := H_
  clear H_
  refine wpList_nil ?_
  refine x_then ?_
  refine wp_seq ?_
  refine wp_seq ?_
  refine wp_region_lit ?_
  refine ql (.int .i64 0) (by kernel_rfl) (by kernel_rfl) ?_
  refine wpList_nil ?_
  refine x_then ?_
  refine wp_block ?_
  replace HS : St W (owns []) W8 [row none 0 0 (ci .i64 ([])) 3 1, blk g5 [.slice none 0 0, .int .i64 (cb : Int)] 30, blk g3 [.slice none 0 0, .int .i64 (ca : Int)] 30, blk h [.chan (some q)] 46, chn q cb (([] : List Int).map fun n : Int => Value.int .i64 n), blk g [.chan (some p)] 46, chn p ca (([] : List Int).map fun n : Int => Value.int .i64 n)] := (HS.nilRow 3 1).cast_ (by kernel_rfl)
  replace HS : St W (owns []) W8 [row none 0 0 (ci .i64 ([])) 3 1, row none 0 0 (ci .i64 ([])) 3 1, blk g5 [.slice none 0 0, .int .i64 (cb : Int)] 30, blk g3 [.slice none 0 0, .int .i64 (ca : Int)] 30, blk h [.chan (some q)] 46, chn q cb (([] : List Int).map fun n : Int => Value.int .i64 n), blk g [.chan (some p)] 46, chn p ca (([] : List Int).map fun n : Int => Value.int .i64 n)] := (HS.nilRow 3 1).cast_ (by kernel_rfl)
  replace HS : St W (owns []) W8 [rde none (ci .i64 ([] : List Int)), row none 0 0 (ci .i64 ([])) 3 1, blk g5 [.slice none 0 0, .int .i64 (cb : Int)] 30, blk g3 [.slice none 0 0, .int .i64 (ca : Int)] 30, blk h [.chan (some q)] 46, chn q cb (([] : List Int).map fun n : Int => Value.int .i64 n), blk g [.chan (some p)] 46, chn p ca (([] : List Int).map fun n : Int => Value.int .i64 n)] := HS.to_rde (i := 0) rfl
  replace HS : St W (owns []) W8 [rde none (ci .i64 ([] : List Int)), rde none (ci .i64 ([] : List Int)), blk g5 [.slice none 0 0, .int .i64 (cb : Int)] 30, blk g3 [.slice none 0 0, .int .i64 (ca : Int)] 30, blk h [.chan (some q)] 46, chn q cb (([] : List Int).map fun n : Int => Value.int .i64 n), blk g [.chan (some p)] 46, chn p ca (([] : List Int).map fun n : Int => Value.int .i64 n)] := HS.to_rde (i := 1) rfl
  replace HS : St W (owns []) W8 [blk g [.chan (some p)] 46, chn p ca (([] : List Int).map fun n : Int => Value.int .i64 n), blk h [.chan (some q)] 46, chn q cb (([] : List Int).map fun n : Int => Value.int .i64 n), rde none (ci .i64 ([] : List Int)), rde none (ci .i64 ([] : List Int)), blk g3 [.slice none 0 0, .int .i64 (ca : Int)] 30, blk g5 [.slice none 0 0, .int .i64 (cb : Int)] 30] := St.tail (F := []) (HS.perm (perm_ [6, 7, 4, 5, 0, 1, 3, 2] (by kernel_rfl) rfl))
  refine wp_loop_ghost (fun kq a' w' => ∃ (J9 : Nat → Value) (i : Int) (xs : List Int) (ys : List Int) (Ax : Option Addr) (cx : Nat) (By : Option Addr) (dy : Nat) , a' = Fr ((.int .i64 (ca : Int)) :: (.int .i64 (cb : Int)) :: (.slice L acts.length e) :: undef :: undef :: undef :: ((J9 6)) :: (.pointer (some ⟨g, 0, none⟩)) :: (.int .i64 0) :: (.pointer (some ⟨h, 0, none⟩)) :: (.int .i64 0) :: (.pointer (some ⟨g3, 0, none⟩)) :: (.pointer (some ⟨g5, 0, none⟩)) :: (.int .i64 i) :: ((J9 14)) :: ((J9 15)) :: ((J9 16)) :: (.int .i64 (ca : Int)) :: (.bool false) :: (.bool false) :: undef :: undef :: (.bool false) :: (.bool false) :: (.int .i64 (cb : Int)) :: (.bool false) :: (.bool false) :: (.bool false) :: (.int .i64 (cb : Int)) :: (.bool false) :: (.bool false) :: (.bool false) :: (.slice L acts.length e) :: (.int .i64 (acts.length : Int)) :: (.bool false) :: (.bool false) :: undef :: (.tuple #[.pointer (some ⟨g, 0, none⟩), .int .i64 0]) :: (.int .i64 (ca : Int)) :: (.tuple #[.pointer (some ⟨g, 0, none⟩), .int .i64 0]) :: (.pointer (some ⟨g, 0, none⟩)) :: (.int .i64 0) :: (.tuple #[.pointer (some ⟨h, 0, none⟩), .int .i64 0]) :: (.int .i64 (cb : Int)) :: (.tuple #[.pointer (some ⟨h, 0, none⟩), .int .i64 0]) :: (.pointer (some ⟨h, 0, none⟩)) :: (.int .i64 0) :: (.int .i64 (ca : Int)) :: (.bool false) :: undef :: undef :: undef :: undef :: undef :: undef :: undef :: undef :: undef :: (.int .i64 (ca : Int)) :: (.bool false) :: undef :: undef :: undef :: undef :: undef :: undef :: undef :: undef :: undef :: (.pointer (some ⟨g, 0, none⟩)) :: (.bool false) :: (.bool false) :: (.pointer (some ⟨h, 0, none⟩)) :: (.bool false) :: (.bool false) :: (.bool false) :: (.int .i64 0) :: (.bool false) :: (.bool false) :: (.bool false) :: (.int .i64 0) :: (.bool false) :: (.bool false) :: (.int .i64 (ca : Int)) :: (.agg #[.slice none 0 0, .int .i64 (ca : Int)]) :: (.int .i64 (cb : Int)) :: (.agg #[.slice none 0 0, .int .i64 (cb : Int)]) :: ((J9 87)) :: ((J9 88)) :: ((J9 89)) :: ((J9 90)) :: ((J9 91)) :: ((J9 92)) :: ((J9 93)) :: ((J9 94)) :: ((J9 95)) :: ((J9 96)) :: ((J9 97)) :: ((J9 98)) :: ((J9 99)) :: ((J9 100)) :: ((J9 101)) :: ((J9 102)) :: ((J9 103)) :: ((J9 104)) :: ((J9 105)) :: ((J9 106)) :: ((J9 107)) :: ((J9 108)) :: ((J9 109)) :: ((J9 110)) :: ((J9 111)) :: ((J9 112)) :: ((J9 113)) :: ((J9 114)) :: ((J9 115)) :: ((J9 116)) :: ((J9 117)) :: ((J9 118)) :: ((J9 119)) :: ((J9 120)) :: ((J9 121)) :: ((J9 122)) :: ((J9 123)) :: ((J9 124)) :: ((J9 125)) :: ((J9 126)) :: ((J9 127)) :: ((J9 128)) :: ((J9 129)) :: ((J9 130)) :: ((J9 131)) :: ((J9 132)) :: ((J9 133)) :: ((J9 134)) :: ((J9 135)) :: ((J9 136)) :: ((J9 137)) :: ((J9 138)) :: ((J9 139)) :: ((J9 140)) :: ((J9 141)) :: ((J9 142)) :: ((J9 143)) :: ((J9 144)) :: ((J9 145)) :: undef :: undef :: undef :: undef :: undef :: undef :: undef :: undef :: undef :: undef :: undef :: undef :: undef :: undef :: undef :: []) ∧ kq = (acts.length - (i).toNat) ∧ (0 ≤ i) ∧ (i ≤ acts.length) ∧ ((xs).length ≤ ca) ∧ ((ys).length ≤ cb) ∧ ((xs).length ≤ cx) ∧ ((ys).length ≤ dy) ∧ St W (owns []) w' [blk g [.chan (some p)] 46, chn p ca (xs.map fun n : Int => Value.int .i64 n), blk h [.chan (some q)] 46, chn q cb (ys.map fun n : Int => Value.int .i64 n), rde Ax (ci .i64 xs), rde By (ci .i64 ys), blk g3 [.slice Ax xs.length cx, .int .i64 (ca : Int)] 30, blk g5 [.slice By ys.length dy, .int .i64 (cb : Int)] 30]) (acts.length - ((0 : Int)).toNat) ⟨(fun k_ : Nat => List.getD ((.int .i64 (ca : Int)) :: (.int .i64 (cb : Int)) :: (.slice L acts.length e) :: undef :: undef :: undef :: (.bool false) :: (.pointer (some ⟨g, 0, none⟩)) :: (.int .i64 0) :: (.pointer (some ⟨h, 0, none⟩)) :: (.int .i64 0) :: (.pointer (some ⟨g3, 0, none⟩)) :: (.pointer (some ⟨g5, 0, none⟩)) :: (.int .i64 0) :: undef :: undef :: undef :: (.int .i64 (ca : Int)) :: (.bool false) :: (.bool false) :: undef :: undef :: (.bool false) :: (.bool false) :: (.int .i64 (cb : Int)) :: (.bool false) :: (.bool false) :: (.bool false) :: (.int .i64 (cb : Int)) :: (.bool false) :: (.bool false) :: (.bool false) :: (.slice L acts.length e) :: (.int .i64 (acts.length : Int)) :: (.bool false) :: (.bool false) :: undef :: (.tuple #[.pointer (some ⟨g, 0, none⟩), .int .i64 0]) :: (.int .i64 (ca : Int)) :: (.tuple #[.pointer (some ⟨g, 0, none⟩), .int .i64 0]) :: (.pointer (some ⟨g, 0, none⟩)) :: (.int .i64 0) :: (.tuple #[.pointer (some ⟨h, 0, none⟩), .int .i64 0]) :: (.int .i64 (cb : Int)) :: (.tuple #[.pointer (some ⟨h, 0, none⟩), .int .i64 0]) :: (.pointer (some ⟨h, 0, none⟩)) :: (.int .i64 0) :: (.int .i64 (ca : Int)) :: (.bool false) :: undef :: undef :: undef :: undef :: undef :: undef :: undef :: undef :: undef :: (.int .i64 (ca : Int)) :: (.bool false) :: undef :: undef :: undef :: undef :: undef :: undef :: undef :: undef :: undef :: (.pointer (some ⟨g, 0, none⟩)) :: (.bool false) :: (.bool false) :: (.pointer (some ⟨h, 0, none⟩)) :: (.bool false) :: (.bool false) :: (.bool false) :: (.int .i64 0) :: (.bool false) :: (.bool false) :: (.bool false) :: (.int .i64 0) :: (.bool false) :: (.bool false) :: (.int .i64 (ca : Int)) :: (.agg #[.slice none 0 0, .int .i64 (ca : Int)]) :: (.int .i64 (cb : Int)) :: (.agg #[.slice none 0 0, .int .i64 (cb : Int)]) :: undef :: undef :: undef :: undef :: undef :: undef :: undef :: undef :: undef :: undef :: undef :: undef :: undef :: undef :: undef :: undef :: undef :: undef :: undef :: undef :: undef :: undef :: undef :: undef :: undef :: undef :: undef :: undef :: undef :: undef :: undef :: undef :: undef :: undef :: undef :: undef :: undef :: undef :: undef :: undef :: undef :: undef :: undef :: undef :: undef :: undef :: undef :: undef :: undef :: undef :: undef :: undef :: undef :: undef :: undef :: undef :: undef :: undef :: undef :: undef :: undef :: undef :: undef :: undef :: undef :: undef :: undef :: undef :: undef :: undef :: undef :: undef :: undef :: undef :: []) k_ undef), (0 : Int), ([] : List Int), ([] : List Int), none, 0, none, 0, congrArg Fr (by kernel_rfl), rfl, by omega, by omega, by simp, by simp, by simp, by simp, HS⟩ ?_
  clear HS
  intro kq10 a' W11 hrel
  obtain ⟨J9, i, xs, ys, Ax, cx, By, dy, rfl, hk, i0, i1, hx, hy, hxc, hyd, HS⟩ := hrel
  refine wp_seq ?_
  refine wp_seq ?_
  refine wp_region_lit ?_
  refine ql (.int .i64 i) (by kernel_rfl) (by kernel_rfl) ?_
  refine ql (.slice L acts.length e) (by kernel_rfl) (by kernel_rfl) ?_
  refine ql (.int .i64 (acts.length : Int)) (by kernel_rfl) (by kernel_rfl) ?_
  by_cases hc12 : i < (acts.length : Int)
  · skip
    refine ql (.bool true) (by kernel_rfl) (R_bool (p := i < (acts.length : Int)) (by kernel_rfl) (hc12)) ?_
    refine wpList_nil ?_
    refine x_then ?_
    refine wp_cond_true (by kernel_rfl) ?_
    refine wp_skip ?_
    refine x_then ?_
    refine wp_seq ?_
    refine wp_block ?_
    refine wp_seq ?_
    refine t_start HS (fun k_ => (blk g [.chan (some p)] 46).own k_ ∨ (chn p ca (xs.map fun n : Int => Value.int .i64 n)).own k_ ∨ (blk h [.chan (some q)] 46).own k_ ∨ (chn q cb (ys.map fun n : Int => Value.int .i64 n)).own k_ ∨ (rde Ax (ci .i64 xs)).own k_ ∨ (rde By (ci .i64 ys)).own k_) 18 (by kernel_rfl) rfl ?_
    intro W13 H_ HD_
    clear HD_
    replace HS : St W (owns []) W13 [blk g [.chan (some p)] 46, chn p ca (xs.map fun n : Int => Value.int .i64 n), blk h [.chan (some q)] 46, chn q cb (ys.map fun n : Int => Value.int .i64 n), rde Ax (ci .i64 xs), rde By (ci .i64 ys), blk g3 [.slice Ax xs.length cx, .int .i64 (ca : Int)] 30, blk g5 [.slice By ys.length dy, .int .i64 (cb : Int)] 30] := H_
    clear H_
    have HV := HS
    have HK := Kpt.refl (fun k_ => (blk g [.chan (some p)] 46).own k_ ∨ (chn p ca (xs.map fun n : Int => Value.int .i64 n)).own k_ ∨ (blk h [.chan (some q)] 46).own k_ ∨ (chn q cb (ys.map fun n : Int => Value.int .i64 n)).own k_ ∨ (rde Ax (ci .i64 xs)).own k_ ∨ (rde By (ci .i64 ys)).own k_) W13
    refine t_q (n := 17) 0 (.pointer (some ⟨g, 0, none⟩)) rfl (by kernel_rfl) (by kernel_rfl) (fun _ _ _ h => h) (fun w' hk => (by kernel_rfl)) HK ?_
    refine t_q (n := 16) 1 (.pointer (some ⟨h, 0, none⟩)) rfl (by kernel_rfl) (by kernel_rfl) (fun _ _ _ h => h) (fun w' hk => (by kernel_rfl)) HK ?_
    refine t_q (n := 15) 2 (.agg #[.slice Ax xs.length cx, .int .i64 (ca : Int)]) rfl (by kernel_rfl) (by kernel_rfl) (fun _ _ _ h => h) (fun w' hk => (R_loadN (p := ⟨g3, 0, none⟩) [.slice Ax xs.length cx, .int .i64 (ca : Int)] (by kernel_rfl) (by kernel_rfl) (by kernel_rfl) (by kernel_rfl) (two_at (hk.cellN (fun h_ => h_.elim (HV.sepB (a := 6) (b := 0) (by decide) rfl rfl) (fun h_ => h_.elim (HV.sepB (a := 6) (b := 1) (by decide) rfl rfl) (fun h_ => h_.elim (HV.sepB (a := 6) (b := 2) (by decide) rfl rfl) (fun h_ => h_.elim (HV.sepB (a := 6) (b := 3) (by decide) rfl rfl) (fun h_ => h_.elim (HV.sepB (a := 6) (b := 4) (by decide) rfl rfl) (HV.sepB (a := 6) (b := 5) (by decide) rfl rfl)))))) (HV.cell (i := 6) (j := 0) rfl rfl)) (hk.cellN (fun h_ => h_.elim (HV.sepB (a := 6) (b := 0) (by decide) rfl rfl) (fun h_ => h_.elim (HV.sepB (a := 6) (b := 1) (by decide) rfl rfl) (fun h_ => h_.elim (HV.sepB (a := 6) (b := 2) (by decide) rfl rfl) (fun h_ => h_.elim (HV.sepB (a := 6) (b := 3) (by decide) rfl rfl) (fun h_ => h_.elim (HV.sepB (a := 6) (b := 4) (by decide) rfl rfl) (HV.sepB (a := 6) (b := 5) (by decide) rfl rfl)))))) (HV.cell (i := 6) (j := 1) rfl rfl))))) HK ?_
    refine t_q (n := 14) 3 (.agg #[.slice By ys.length dy, .int .i64 (cb : Int)]) rfl (by kernel_rfl) (by kernel_rfl) (fun _ _ _ h => h) (fun w' hk => (R_loadN (p := ⟨g5, 0, none⟩) [.slice By ys.length dy, .int .i64 (cb : Int)] (by kernel_rfl) (by kernel_rfl) (by kernel_rfl) (by kernel_rfl) (two_at (hk.cellN (fun h_ => h_.elim (HV.sepB (a := 7) (b := 0) (by decide) rfl rfl) (fun h_ => h_.elim (HV.sepB (a := 7) (b := 1) (by decide) rfl rfl) (fun h_ => h_.elim (HV.sepB (a := 7) (b := 2) (by decide) rfl rfl) (fun h_ => h_.elim (HV.sepB (a := 7) (b := 3) (by decide) rfl rfl) (fun h_ => h_.elim (HV.sepB (a := 7) (b := 4) (by decide) rfl rfl) (HV.sepB (a := 7) (b := 5) (by decide) rfl rfl)))))) (HV.cell (i := 7) (j := 0) rfl rfl)) (hk.cellN (fun h_ => h_.elim (HV.sepB (a := 7) (b := 0) (by decide) rfl rfl) (fun h_ => h_.elim (HV.sepB (a := 7) (b := 1) (by decide) rfl rfl) (fun h_ => h_.elim (HV.sepB (a := 7) (b := 2) (by decide) rfl rfl) (fun h_ => h_.elim (HV.sepB (a := 7) (b := 3) (by decide) rfl rfl) (fun h_ => h_.elim (HV.sepB (a := 7) (b := 4) (by decide) rfl rfl) (HV.sepB (a := 7) (b := 5) (by decide) rfl rfl)))))) (HV.cell (i := 7) (j := 1) rfl rfl))))) HK ?_
    refine t_q (n := 13) 4 (.slice L acts.length e) rfl (by kernel_rfl) (by kernel_rfl) (fun _ _ _ h => h) (fun w' hk => (by kernel_rfl)) HK ?_
    refine t_q (n := 12) 5 (.int .i64 i) rfl (by kernel_rfl) (by kernel_rfl) (fun _ _ _ h => h) (fun w' hk => (by kernel_rfl)) HK ?_
    obtain ⟨ad14, rfl⟩ := Rd.isSome_ hr (by rw [cf_len (z := 2) (fun _ => rfl)]; omega)
    refine t_q (n := 11) 6 (.pointer (some (ad14.add (i.toNat * 2)))) rfl (by kernel_rfl) (by kernel_rfl) (fun _ _ _ h => h) (fun w' hk => (R_indexA (k := .i64) (p := ad14) (n := acts.length) (c := e) (i := i) (by kernel_rfl) (by kernel_rfl) Try.underlying22 (by kernel_rfl) (by omega) (by omega))) HK ?_
    refine t_q (n := 10) 7 (.agg #[.int .i64 ((gx acts i).1), .int .i64 ((gx acts i).2)]) rfl (by kernel_rfl) (by kernel_rfl) (fun _ _ _ h => h) (fun w' hk => (R_loadN (p := ad14.add (i.toNat * 2)) [.int .i64 ((gx acts i).1), .int .i64 ((gx acts i).2)] (by kernel_rfl) (by kernel_rfl) (by kernel_rfl) (by kernel_rfl) (fun j_ v_ hv_ => (hk.cellN (fun h_ => h_.elim (HV.oldSep (i := 0) rfl ((Rd.elem (f := actC) (fun _ => rfl) hr (gx_eq (by omega) (by omega))) j_ v_ hv_)) (fun h_ => h_.elim (HV.oldSep (i := 1) rfl ((Rd.elem (f := actC) (fun _ => rfl) hr (gx_eq (by omega) (by omega))) j_ v_ hv_)) (fun h_ => h_.elim (HV.oldSep (i := 2) rfl ((Rd.elem (f := actC) (fun _ => rfl) hr (gx_eq (by omega) (by omega))) j_ v_ hv_)) (fun h_ => h_.elim (HV.oldSep (i := 3) rfl ((Rd.elem (f := actC) (fun _ => rfl) hr (gx_eq (by omega) (by omega))) j_ v_ hv_)) (fun h_ => h_.elim (HV.oldSep (i := 4) rfl ((Rd.elem (f := actC) (fun _ => rfl) hr (gx_eq (by omega) (by omega))) j_ v_ hv_)) (HV.oldSep (i := 5) rfl ((Rd.elem (f := actC) (fun _ => rfl) hr (gx_eq (by omega) (by omega))) j_ v_ hv_))))))) (HV.old0 ((Rd.elem (f := actC) (fun _ => rfl) hr (gx_eq (by omega) (by omega))) j_ v_ hv_)))))) HK ?_
    refine t_pick3 (n := 9) 8 13 14 (by kernel_rfl) ?_ ?_ ?_
    · skip
      refine t_c2 (n := 9) 8 (f := 6) (args := #[.pointer (some ⟨g, 0, none⟩), .pointer (some ⟨h, 0, none⟩), .agg #[.slice Ax xs.length cx, .int .i64 (ca : Int)], .agg #[.slice By ys.length dy, .int .i64 (cb : Int)], .agg #[.int .i64 ((gx acts i).1), .int .i64 ((gx acts i).2)]]) rfl (by kernel_rfl) (R_call #[.pointer (some ⟨g, 0, none⟩), .pointer (some ⟨h, 0, none⟩), .agg #[.slice Ax xs.length cx, .int .i64 (ca : Int)], .agg #[.slice By ys.length dy, .int .i64 (cb : Int)], .agg #[.int .i64 ((gx acts i).1), .int .i64 ((gx acts i).2)]] Try.func6 (by kernel_rfl) (by kernel_rfl) (by kernel_rfl)) ?_
      refine (does_t g p ca h q cb Ax cx xs By dy ys ((gx acts i).1) ((gx acts i).2) _ _ (St.focus (F := [blk g [.chan (some p)] 46, chn p ca (xs.map fun n : Int => Value.int .i64 n), blk h [.chan (some q)] 46, chn q cb (ys.map fun n : Int => Value.int .i64 n), rde Ax (ci .i64 xs), rde By (ci .i64 ys)]) HS) (by omega) (by omega) hx hy hxc hyd).mono ?_
      rintro e W15 ⟨xs7, ys7, A7, c7, B7, d7, rfl, H_, hx7, hy7, hxc7, hyd7⟩
      have hkf_ : ∀ k_, owns [blk g [.chan (some p)] 46, chn p ca (xs.map fun n : Int => Value.int .i64 n), blk h [.chan (some q)] 46, chn q cb (ys.map fun n : Int => Value.int .i64 n), rde Ax (ci .i64 xs), rde By (ci .i64 ys)] k_ → (blk g [.chan (some p)] 46).own k_ ∨ (chn p ca (xs.map fun n : Int => Value.int .i64 n)).own k_ ∨ (blk h [.chan (some q)] 46).own k_ ∨ (chn q cb (ys.map fun n : Int => Value.int .i64 n)).own k_ ∨ (rde Ax (ci .i64 xs)).own k_ ∨ (rde By (ci .i64 ys)).own k_ := by
        intro k_ h_; obtain ⟨e_, he_, ho_⟩ := h_; simp only [List.mem_cons, List.not_mem_nil, or_false] at he_; rcases he_ with rfl | rfl | rfl | rfl | rfl | rfl <;> first | exact (.inl ho_) | exact (.inr (.inl ho_)) | exact (.inr (.inr (.inl ho_))) | exact (.inr (.inr (.inr (.inl ho_)))) | exact (.inr (.inr (.inr (.inr (.inl ho_))))) | exact (.inr (.inr (.inr (.inr (.inr ho_)))))
      refine ⟨_, rfl, HK.trans H_.kept (fun _ h_ => .inl (hkf_ _ h_)), ?_⟩
      replace HK := HK.trans H_.kept (fun _ h_ => .inl (hkf_ _ h_))
      replace HS : St W (owns []) W15 [blk g [.chan (some p)] 46, chn p ca (xs7.map fun n : Int => Value.int .i64 n), blk h [.chan (some q)] 46, chn q cb (ys7.map fun n : Int => Value.int .i64 n), rde A7 (ci .i64 xs7), rde B7 (ci .i64 ys7), blk g3 [.slice Ax xs.length cx, .int .i64 (ca : Int)] 30, blk g5 [.slice By ys.length dy, .int .i64 (cb : Int)] 30] := HS.join (F := [blk g [.chan (some p)] 46, chn p ca (xs.map fun n : Int => Value.int .i64 n), blk h [.chan (some q)] 46, chn q cb (ys.map fun n : Int => Value.int .i64 n), rde Ax (ci .i64 xs), rde By (ci .i64 ys)]) (G := [blk g [.chan (some p)] 46, chn p ca (xs7.map fun n : Int => Value.int .i64 n), blk h [.chan (some q)] 46, chn q cb (ys7.map fun n : Int => Value.int .i64 n), rde A7 (ci .i64 xs7), rde B7 (ci .i64 ys7)]) H_
      clear H_
      refine t_q (n := 8) 9 (.tuple #[.agg #[.slice A7 xs7.length c7, .int .i64 (ca : Int)], .agg #[.slice B7 ys7.length d7, .int .i64 (cb : Int)], .bool true]) rfl (by kernel_rfl) (by kernel_rfl) (fun _ _ _ h => h) (fun w' hk => (by kernel_rfl)) HK ?_
      refine t_q (n := 7) 10 (.agg #[.slice A7 xs7.length c7, .int .i64 (ca : Int)]) rfl (by kernel_rfl) (by kernel_rfl) (fun _ _ _ h => h) (fun w' hk => (by kernel_rfl)) HK ?_
      refine t_q (n := 6) 11 (.agg #[.slice B7 ys7.length d7, .int .i64 (cb : Int)]) rfl (by kernel_rfl) (by kernel_rfl) (fun _ _ _ h => h) (fun w' hk => (by kernel_rfl)) HK ?_
      refine t_q (n := 5) 12 (.bool true) rfl (by kernel_rfl) (by kernel_rfl) (fun _ _ _ h => h) (fun w' hk => (by kernel_rfl)) HK ?_
      refine t_pick2 (n := 4) 13 14 (by kernel_rfl) ?_ ?_
      · skip
        obtain ⟨g16, W17, hg_, hw_, H_, hk_⟩ := ex_blk HS [.slice none 0 0, .int .i64 0] 30
        have hv_g16 := Nat.le_trans HK.size (Nat.le_of_eq (Eq.symm hg_))
        refine t_e2 (n := 4) 13 (.pointer (some ⟨g16, 0, none⟩)) rfl (by kernel_rfl) (by subst hg_; subst hw_; kernel_rfl) (HK.tr hk_) ?_
        replace HK := HK.tr hk_
        clear hk_
        clear hg_ hw_
        replace HS : St W (owns []) W17 [blk g16 [.slice none 0 0, .int .i64 0] 30, blk g [.chan (some p)] 46, chn p ca (xs7.map fun n : Int => Value.int .i64 n), blk h [.chan (some q)] 46, chn q cb (ys7.map fun n : Int => Value.int .i64 n), rde A7 (ci .i64 xs7), rde B7 (ci .i64 ys7), blk g3 [.slice Ax xs.length cx, .int .i64 (ca : Int)] 30, blk g5 [.slice By ys.length dy, .int .i64 (cb : Int)] 30] := H_
        clear H_
        obtain ⟨g18, W19, hg_, hw_, H_, hk_⟩ := ex_blk HS [.slice none 0 0, .int .i64 0] 30
        have hv_g18 := Nat.le_trans HK.size (Nat.le_of_eq (Eq.symm hg_))
        refine t_e (n := 3) 14 (.pointer (some ⟨g18, 0, none⟩)) rfl (by kernel_rfl) (by kernel_rfl) (by subst hg_; subst hw_; kernel_rfl) (HK.tr hk_) ?_
        replace HK := HK.tr hk_
        clear hk_
        clear hg_ hw_
        replace HS : St W (owns []) W19 [blk g18 [.slice none 0 0, .int .i64 0] 30, blk g16 [.slice none 0 0, .int .i64 0] 30, blk g [.chan (some p)] 46, chn p ca (xs7.map fun n : Int => Value.int .i64 n), blk h [.chan (some q)] 46, chn q cb (ys7.map fun n : Int => Value.int .i64 n), rde A7 (ci .i64 xs7), rde B7 (ci .i64 ys7), blk g3 [.slice Ax xs.length cx, .int .i64 (ca : Int)] 30, blk g5 [.slice By ys.length dy, .int .i64 (cb : Int)] 30] := H_
        clear H_
        obtain ⟨W20, hrun_, H_, hk_⟩ := ex_ks (P := Try.prog) (ty := 0) (ps := "law.go:63") (af := #[{ on := 13, ground := Go.Ground.data }, { on := 10, ground := Go.Ground.data }, { on := 8, ground := Go.Ground.chain }, { on := 0, ground := Go.Ground.phase }, { on := 1, ground := Go.Ground.phase }, { on := 2, ground := Go.Ground.phase }, { on := 3, ground := Go.Ground.phase }, { on := 4, ground := Go.Ground.phase }, { on := 5, ground := Go.Ground.phase }, { on := 6, ground := Go.Ground.phase }, { on := 7, ground := Go.Ground.phase }, { on := 8, ground := Go.Ground.phase }, { on := 9, ground := Go.Ground.phase }, { on := 10, ground := Go.Ground.phase }, { on := 11, ground := (Go.Ground.textOnly Go.Departure.lateStores) }, { on := 12, ground := (Go.Ground.textOnly Go.Departure.lateStores) }, { on := 13, ground := Go.Ground.phase }, { on := 14, ground := Go.Ground.phase }]) (gd := none) (t := 30) (x := (Go.Operand.tmp 14)) (y := (Go.Operand.tmp 103)) (v := .agg #[.slice A7 xs7.length c7, .int .i64 (ca : Int)]) HS 1 rfl (0) [.slice A7 xs7.length c7, .int .i64 (ca : Int)] (by kernel_rfl) (by kernel_rfl) (by kernel_rfl) (by kernel_rfl) (one_ (by kernel_rfl)) (Nat.le_of_ble_eq_true rfl)
        replace HK := HK.trans hk_ (fun _ h_ => .inr (Nat.le_trans hv_g16 (Nat.le_of_eq (Eq.symm h_))))
        refine t_s (n := 2) 15 rfl (by kernel_rfl) (by kernel_rfl) hrun_ HK ?_
        clear hk_ hrun_
        replace HS : St W (owns []) W20 [blk g18 [.slice none 0 0, .int .i64 0] 30, blk g16 [.slice A7 xs7.length c7, .int .i64 (ca : Int)] 30, blk g [.chan (some p)] 46, chn p ca (xs7.map fun n : Int => Value.int .i64 n), blk h [.chan (some q)] 46, chn q cb (ys7.map fun n : Int => Value.int .i64 n), rde A7 (ci .i64 xs7), rde B7 (ci .i64 ys7), blk g3 [.slice Ax xs.length cx, .int .i64 (ca : Int)] 30, blk g5 [.slice By ys.length dy, .int .i64 (cb : Int)] 30] := H_
        clear H_
        obtain ⟨W21, hrun_, H_, hk_⟩ := ex_ks (P := Try.prog) (ty := 0) (ps := "law.go:63") (af := #[{ on := 14, ground := Go.Ground.data }, { on := 11, ground := Go.Ground.data }, { on := 15, ground := Go.Ground.chain }, { on := 0, ground := Go.Ground.phase }, { on := 1, ground := Go.Ground.phase }, { on := 2, ground := Go.Ground.phase }, { on := 3, ground := Go.Ground.phase }, { on := 4, ground := Go.Ground.phase }, { on := 5, ground := Go.Ground.phase }, { on := 6, ground := Go.Ground.phase }, { on := 7, ground := Go.Ground.phase }, { on := 8, ground := Go.Ground.phase }, { on := 9, ground := Go.Ground.phase }, { on := 10, ground := Go.Ground.phase }, { on := 11, ground := Go.Ground.phase }, { on := 12, ground := (Go.Ground.textOnly Go.Departure.lateStores) }, { on := 13, ground := Go.Ground.phase }, { on := 14, ground := Go.Ground.phase }, { on := 15, ground := Go.Ground.phase }]) (gd := none) (t := 30) (x := (Go.Operand.tmp 15)) (y := (Go.Operand.tmp 104)) (v := .agg #[.slice B7 ys7.length d7, .int .i64 (cb : Int)]) HS 0 rfl (0) [.slice B7 ys7.length d7, .int .i64 (cb : Int)] (by kernel_rfl) (by kernel_rfl) (by kernel_rfl) (by kernel_rfl) (one_ (by kernel_rfl)) (Nat.le_of_ble_eq_true rfl)
        replace HK := HK.trans hk_ (fun _ h_ => .inr (Nat.le_trans hv_g18 (Nat.le_of_eq (Eq.symm h_))))
        refine t_s (n := 1) 16 rfl (by kernel_rfl) (by kernel_rfl) hrun_ HK ?_
        clear hk_ hrun_
        replace HS : St W (owns []) W21 [blk g18 [.slice B7 ys7.length d7, .int .i64 (cb : Int)] 30, blk g16 [.slice A7 xs7.length c7, .int .i64 (ca : Int)] 30, blk g [.chan (some p)] 46, chn p ca (xs7.map fun n : Int => Value.int .i64 n), blk h [.chan (some q)] 46, chn q cb (ys7.map fun n : Int => Value.int .i64 n), rde A7 (ci .i64 xs7), rde B7 (ci .i64 ys7), blk g3 [.slice Ax xs.length cx, .int .i64 (ca : Int)] 30, blk g5 [.slice By ys.length dy, .int .i64 (cb : Int)] 30] := H_
        clear H_
        refine t_q (n := 0) 17 (.bool true) rfl (by kernel_rfl) (by kernel_rfl) (fun _ _ _ h => h) (fun w' hk => (by kernel_rfl)) HK ?_
        refine t_done (by kernel_rfl) ?_
        clear HV HK
        refine x_then ?_
        refine wp_seq ?_
        refine wp_region_lit ?_
        refine ql (.agg #[.slice A7 xs7.length c7, .int .i64 (ca : Int)]) (by kernel_rfl) (R_loadN (p := ⟨g16, 0, none⟩) [.slice A7 xs7.length c7, .int .i64 (ca : Int)] (by kernel_rfl) (by kernel_rfl) (by kernel_rfl) (by kernel_rfl) (two_at (HS.cell (i := 1) (j := 0) rfl rfl) (HS.cell (i := 1) (j := 1) rfl rfl))) ?_
        refine ks (v := .agg #[.slice A7 xs7.length c7, .int .i64 (ca : Int)]) HS 8 rfl (0) [.slice A7 xs7.length c7, .int .i64 (ca : Int)] (by kernel_rfl) (by kernel_rfl) (by kernel_rfl) (by kernel_rfl) (by kernel_rfl) (one_ (by kernel_rfl)) (Nat.le_of_ble_eq_true rfl) rfl ?_
        intro W22 H_
        replace HS : St W (owns []) W22 [blk g18 [.slice B7 ys7.length d7, .int .i64 (cb : Int)] 30, blk g16 [.slice A7 xs7.length c7, .int .i64 (ca : Int)] 30, blk g [.chan (some p)] 46, chn p ca (xs7.map fun n : Int => Value.int .i64 n), blk h [.chan (some q)] 46, chn q cb (ys7.map fun n : Int => Value.int .i64 n), rde A7 (ci .i64 xs7), rde B7 (ci .i64 ys7), blk g3 [.slice A7 xs7.length c7, .int .i64 (ca : Int)] 30, blk g5 [.slice By ys.length dy, .int .i64 (cb : Int)] 30] := H_
        clear H_
        refine wpList_nil ?_
        refine x_then ?_
        refine wp_seq ?_
        refine wp_region_lit ?_
        refine ql (.agg #[.slice B7 ys7.length d7, .int .i64 (cb : Int)]) (by kernel_rfl) (R_loadN (p := ⟨g18, 0, none⟩) [.slice B7 ys7.length d7, .int .i64 (cb : Int)] (by kernel_rfl) (by kernel_rfl) (by kernel_rfl) (by kernel_rfl) (two_at (HS.cell (i := 0) (j := 0) rfl rfl) (HS.cell (i := 0) (j := 1) rfl rfl))) ?_
        refine ks (v := .agg #[.slice B7 ys7.length d7, .int .i64 (cb : Int)]) HS 9 rfl (0) [.slice B7 ys7.length d7, .int .i64 (cb : Int)] (by kernel_rfl) (by kernel_rfl) (by kernel_rfl) (by kernel_rfl) (by kernel_rfl) (one_ (by kernel_rfl)) (Nat.le_of_ble_eq_true rfl) rfl ?_
        intro W23 H_
        replace HS : St W (owns []) W23 [blk g18 [.slice B7 ys7.length d7, .int .i64 (cb : Int)] 30, blk g16 [.slice A7 xs7.length c7, .int .i64 (ca : Int)] 30, blk g [.chan (some p)] 46, chn p ca (xs7.map fun n : Int => Value.int .i64 n), blk h [.chan (some q)] 46, chn q cb (ys7.map fun n : Int => Value.int .i64 n), rde A7 (ci .i64 xs7), rde B7 (ci .i64 ys7), blk g3 [.slice A7 xs7.length c7, .int .i64 (ca : Int)] 30, blk g5 [.slice B7 ys7.length d7, .int .i64 (cb : Int)] 30] := H_
        clear H_
        refine wpList_nil ?_
        refine x_then ?_
        refine wp_seq ?_
        refine t_start HS (fun _ => False) 38 (by kernel_rfl) rfl ?_
        intro W24 H_ HD_
        clear HD_
        replace HS : St W (owns []) W24 [blk g18 [.slice B7 ys7.length d7, .int .i64 (cb : Int)] 30, blk g16 [.slice A7 xs7.length c7, .int .i64 (ca : Int)] 30, blk g [.chan (some p)] 46, chn p ca (xs7.map fun n : Int => Value.int .i64 n), blk h [.chan (some q)] 46, chn q cb (ys7.map fun n : Int => Value.int .i64 n), rde A7 (ci .i64 xs7), rde B7 (ci .i64 ys7), blk g3 [.slice A7 xs7.length c7, .int .i64 (ca : Int)] 30, blk g5 [.slice B7 ys7.length d7, .int .i64 (cb : Int)] 30] := H_
        clear H_
        have HV := HS
        have HK := Kpt.refl (fun _ => False) W24
        refine t_q (n := 37) 0 (.bool true) rfl (by kernel_rfl) (by kernel_rfl) (fun _ _ _ h => h) (fun w' hk => (by kernel_rfl)) HK ?_
        refine t_q (n := 36) 1 (.bool false) rfl (by kernel_rfl) (by kernel_rfl) (fun _ _ _ h => h) (fun w' hk => (by kernel_rfl)) HK ?_
        refine t_q (n := 35) 2 (.bool false) rfl (by kernel_rfl) (by kernel_rfl) (fun _ _ _ h => h) (fun w' hk => (by kernel_rfl)) HK ?_
        refine t_q (n := 34) 3 (.pointer (some ⟨g, 0, none⟩)) rfl (by kernel_rfl) (by kernel_rfl) (fun _ _ _ h => h) (fun w' hk => (by kernel_rfl)) HK ?_
        refine t_q (n := 33) 5 (.pointer (some ⟨g3, 0, none⟩)) rfl (by kernel_rfl) (by kernel_rfl) (fun _ _ _ h => h) (fun w' hk => (by kernel_rfl)) HK ?_
        refine t_q (n := 32) 6 (.slice A7 xs7.length c7) rfl (by kernel_rfl) (by kernel_rfl) (fun _ _ _ h => h) (fun w' hk => (R_load (p := ⟨g3, 0, none⟩) (by kernel_rfl) (by kernel_rfl) (by kernel_rfl) (hk.cell (HV.cell (i := 8) (j := 0) rfl rfl)))) HK ?_
        refine t_q (n := 31) 7 (.int .i64 (xs7.length : Int)) rfl (by kernel_rfl) (by kernel_rfl) (fun _ _ _ h => h) (fun w' hk => (by kernel_rfl)) HK ?_
        refine t_c (n := 30) 4 (f := 7) (args := #[.pointer (some ⟨g, 0, none⟩)]) rfl (by kernel_rfl) (by kernel_rfl) (R_call #[.pointer (some ⟨g, 0, none⟩)] Try.func7 (by kernel_rfl) (by kernel_rfl) (by kernel_rfl)) ?_
        refine (plen g p ca xs7 _ (HS.cell (i := 2) (j := 0) rfl rfl) (HS.get (i := 3) rfl) (by omega) (by omega)).mono ?_
        rintro e W25 ⟨rfl, H_⟩
        refine ⟨_, rfl, HK.tr H_.kept.nil, ?_⟩
        replace HK := HK.tr H_.kept.nil
        replace HS : St W (owns []) W25 [blk g18 [.slice B7 ys7.length d7, .int .i64 (cb : Int)] 30, blk g16 [.slice A7 xs7.length c7, .int .i64 (ca : Int)] 30, blk g [.chan (some p)] 46, chn p ca (xs7.map fun n : Int => Value.int .i64 n), blk h [.chan (some q)] 46, chn q cb (ys7.map fun n : Int => Value.int .i64 n), rde A7 (ci .i64 xs7), rde B7 (ci .i64 ys7), blk g3 [.slice A7 xs7.length c7, .int .i64 (ca : Int)] 30, blk g5 [.slice B7 ys7.length d7, .int .i64 (cb : Int)] 30] := HS.join (F := []) (G := []) H_
        clear H_
        refine t_q (n := 29) 8 (.bool false) rfl (by kernel_rfl) (by kernel_rfl) (fun _ _ _ h => h) (fun w' hk => (R_beq (b := ((xs7.length : Int) != (xs7.length : Int))) (by kernel_rfl) (bne_f (by omega)))) HK ?_
        refine t_q (n := 28) 9 (.bool false) rfl (by kernel_rfl) (by kernel_rfl) (fun _ _ _ h => h) (fun w' hk => (by kernel_rfl)) HK ?_
        refine t_q (n := 27) 10 (.bool false) rfl (by kernel_rfl) (by kernel_rfl) (fun _ _ _ h => h) (fun w' hk => (by kernel_rfl)) HK ?_
        refine t_q (n := 26) 11 (.pointer (some ⟨h, 0, none⟩)) rfl (by kernel_rfl) (by kernel_rfl) (fun _ _ _ h => h) (fun w' hk => (by kernel_rfl)) HK ?_
        refine t_q (n := 25) 13 (.pointer (some ⟨g5, 0, none⟩)) rfl (by kernel_rfl) (by kernel_rfl) (fun _ _ _ h => h) (fun w' hk => (by kernel_rfl)) HK ?_
        refine t_q (n := 24) 14 (.slice B7 ys7.length d7) rfl (by kernel_rfl) (by kernel_rfl) (fun _ _ _ h => h) (fun w' hk => (R_load (p := ⟨g5, 0, none⟩) (by kernel_rfl) (by kernel_rfl) (by kernel_rfl) (hk.cell (HV.cell (i := 9) (j := 0) rfl rfl)))) HK ?_
        refine t_q (n := 23) 15 (.int .i64 (ys7.length : Int)) rfl (by kernel_rfl) (by kernel_rfl) (fun _ _ _ h => h) (fun w' hk => (by kernel_rfl)) HK ?_
        refine t_c (n := 22) 12 (f := 7) (args := #[.pointer (some ⟨h, 0, none⟩)]) rfl (by kernel_rfl) (by kernel_rfl) (R_call #[.pointer (some ⟨h, 0, none⟩)] Try.func7 (by kernel_rfl) (by kernel_rfl) (by kernel_rfl)) ?_
        refine (plen h q cb ys7 _ (HS.cell (i := 4) (j := 0) rfl rfl) (HS.get (i := 5) rfl) (by omega) (by omega)).mono ?_
        rintro e W26 ⟨rfl, H_⟩
        refine ⟨_, rfl, HK.tr H_.kept.nil, ?_⟩
        replace HK := HK.tr H_.kept.nil
        replace HS : St W (owns []) W26 [blk g18 [.slice B7 ys7.length d7, .int .i64 (cb : Int)] 30, blk g16 [.slice A7 xs7.length c7, .int .i64 (ca : Int)] 30, blk g [.chan (some p)] 46, chn p ca (xs7.map fun n : Int => Value.int .i64 n), blk h [.chan (some q)] 46, chn q cb (ys7.map fun n : Int => Value.int .i64 n), rde A7 (ci .i64 xs7), rde B7 (ci .i64 ys7), blk g3 [.slice A7 xs7.length c7, .int .i64 (ca : Int)] 30, blk g5 [.slice B7 ys7.length d7, .int .i64 (cb : Int)] 30] := HS.join (F := []) (G := []) H_
        clear H_
        refine t_q (n := 21) 16 (.bool false) rfl (by kernel_rfl) (by kernel_rfl) (fun _ _ _ h => h) (fun w' hk => (R_beq (b := ((ys7.length : Int) != (ys7.length : Int))) (by kernel_rfl) (bne_f (by omega)))) HK ?_
        refine t_q (n := 20) 17 (.bool false) rfl (by kernel_rfl) (by kernel_rfl) (fun _ _ _ h => h) (fun w' hk => (by kernel_rfl)) HK ?_
        refine t_q (n := 19) 18 (.bool false) rfl (by kernel_rfl) (by kernel_rfl) (fun _ _ _ h => h) (fun w' hk => (by kernel_rfl)) HK ?_
        refine t_q (n := 18) 19 (.pointer (some ⟨g, 0, none⟩)) rfl (by kernel_rfl) (by kernel_rfl) (fun _ _ _ h => h) (fun w' hk => (by kernel_rfl)) HK ?_
        refine t_q (n := 17) 21 (.int .i64 (ca : Int)) rfl (by kernel_rfl) (by kernel_rfl) (fun _ _ _ h => h) (fun w' hk => (by kernel_rfl)) HK ?_
        refine t_q (n := 16) 22 (.pointer (some ⟨g3, 0, none⟩)) rfl (by kernel_rfl) (by kernel_rfl) (fun _ _ _ h => h) (fun w' hk => (by kernel_rfl)) HK ?_
        refine t_q (n := 15) 23 (.slice A7 xs7.length c7) rfl (by kernel_rfl) (by kernel_rfl) (fun _ _ _ h => h) (fun w' hk => (R_load (p := ⟨g3, 0, none⟩) (by kernel_rfl) (by kernel_rfl) (by kernel_rfl) (hk.cell (HV.cell (i := 8) (j := 0) rfl rfl)))) HK ?_
        refine t_q (n := 14) 24 (.int .i64 (xs7.length : Int)) rfl (by kernel_rfl) (by kernel_rfl) (fun _ _ _ h => h) (fun w' hk => (by kernel_rfl)) HK ?_
        refine t_q (n := 13) 25 (.int .i64 ((ca : Int) - (xs7.length : Int))) rfl (by kernel_rfl) (by kernel_rfl) (fun _ _ _ h => h) (fun w' hk => (R_int (by kernel_rfl) (w64 (by omega)))) HK ?_
        refine t_c (n := 12) 20 (f := 8) (args := #[.pointer (some ⟨g, 0, none⟩)]) rfl (by kernel_rfl) (by kernel_rfl) (R_call #[.pointer (some ⟨g, 0, none⟩)] Try.func8 (by kernel_rfl) (by kernel_rfl) (by kernel_rfl)) ?_
        refine (proom g p ca xs7 _ (HS.cell (i := 2) (j := 0) rfl rfl) (HS.get (i := 3) rfl) (by omega) (by omega)).mono ?_
        rintro e W27 ⟨rfl, H_⟩
        refine ⟨_, rfl, HK.tr H_.kept.nil, ?_⟩
        replace HK := HK.tr H_.kept.nil
        replace HS : St W (owns []) W27 [blk g18 [.slice B7 ys7.length d7, .int .i64 (cb : Int)] 30, blk g16 [.slice A7 xs7.length c7, .int .i64 (ca : Int)] 30, blk g [.chan (some p)] 46, chn p ca (xs7.map fun n : Int => Value.int .i64 n), blk h [.chan (some q)] 46, chn q cb (ys7.map fun n : Int => Value.int .i64 n), rde A7 (ci .i64 xs7), rde B7 (ci .i64 ys7), blk g3 [.slice A7 xs7.length c7, .int .i64 (ca : Int)] 30, blk g5 [.slice B7 ys7.length d7, .int .i64 (cb : Int)] 30] := HS.join (F := []) (G := []) H_
        clear H_
        refine t_q (n := 11) 26 (.bool false) rfl (by kernel_rfl) (by kernel_rfl) (fun _ _ _ h => h) (fun w' hk => (R_beq (b := ((ca : Int) - (xs7.length : Int) != (ca : Int) - (xs7.length : Int))) (by kernel_rfl) (bne_f (by omega)))) HK ?_
        refine t_q (n := 10) 27 (.bool false) rfl (by kernel_rfl) (by kernel_rfl) (fun _ _ _ h => h) (fun w' hk => (by kernel_rfl)) HK ?_
        refine t_q (n := 9) 28 (.bool false) rfl (by kernel_rfl) (by kernel_rfl) (fun _ _ _ h => h) (fun w' hk => (by kernel_rfl)) HK ?_
        refine t_q (n := 8) 29 (.pointer (some ⟨h, 0, none⟩)) rfl (by kernel_rfl) (by kernel_rfl) (fun _ _ _ h => h) (fun w' hk => (by kernel_rfl)) HK ?_
        refine t_q (n := 7) 31 (.int .i64 (cb : Int)) rfl (by kernel_rfl) (by kernel_rfl) (fun _ _ _ h => h) (fun w' hk => (by kernel_rfl)) HK ?_
        refine t_q (n := 6) 32 (.pointer (some ⟨g5, 0, none⟩)) rfl (by kernel_rfl) (by kernel_rfl) (fun _ _ _ h => h) (fun w' hk => (by kernel_rfl)) HK ?_
        refine t_q (n := 5) 33 (.slice B7 ys7.length d7) rfl (by kernel_rfl) (by kernel_rfl) (fun _ _ _ h => h) (fun w' hk => (R_load (p := ⟨g5, 0, none⟩) (by kernel_rfl) (by kernel_rfl) (by kernel_rfl) (hk.cell (HV.cell (i := 9) (j := 0) rfl rfl)))) HK ?_
        refine t_q (n := 4) 34 (.int .i64 (ys7.length : Int)) rfl (by kernel_rfl) (by kernel_rfl) (fun _ _ _ h => h) (fun w' hk => (by kernel_rfl)) HK ?_
        refine t_q (n := 3) 35 (.int .i64 ((cb : Int) - (ys7.length : Int))) rfl (by kernel_rfl) (by kernel_rfl) (fun _ _ _ h => h) (fun w' hk => (R_int (by kernel_rfl) (w64 (by omega)))) HK ?_
        refine t_c (n := 2) 30 (f := 8) (args := #[.pointer (some ⟨h, 0, none⟩)]) rfl (by kernel_rfl) (by kernel_rfl) (R_call #[.pointer (some ⟨h, 0, none⟩)] Try.func8 (by kernel_rfl) (by kernel_rfl) (by kernel_rfl)) ?_
        refine (proom h q cb ys7 _ (HS.cell (i := 4) (j := 0) rfl rfl) (HS.get (i := 5) rfl) (by omega) (by omega)).mono ?_
        rintro e W28 ⟨rfl, H_⟩
        refine ⟨_, rfl, HK.tr H_.kept.nil, ?_⟩
        replace HK := HK.tr H_.kept.nil
        replace HS : St W (owns []) W28 [blk g18 [.slice B7 ys7.length d7, .int .i64 (cb : Int)] 30, blk g16 [.slice A7 xs7.length c7, .int .i64 (ca : Int)] 30, blk g [.chan (some p)] 46, chn p ca (xs7.map fun n : Int => Value.int .i64 n), blk h [.chan (some q)] 46, chn q cb (ys7.map fun n : Int => Value.int .i64 n), rde A7 (ci .i64 xs7), rde B7 (ci .i64 ys7), blk g3 [.slice A7 xs7.length c7, .int .i64 (ca : Int)] 30, blk g5 [.slice B7 ys7.length d7, .int .i64 (cb : Int)] 30] := HS.join (F := []) (G := []) H_
        clear H_
        refine t_q (n := 1) 36 (.bool false) rfl (by kernel_rfl) (by kernel_rfl) (fun _ _ _ h => h) (fun w' hk => (R_beq (b := ((cb : Int) - (ys7.length : Int) != (cb : Int) - (ys7.length : Int))) (by kernel_rfl) (bne_f (by omega)))) HK ?_
        refine t_q (n := 0) 37 (.bool false) rfl (by kernel_rfl) (by kernel_rfl) (fun _ _ _ h => h) (fun w' hk => (by kernel_rfl)) HK ?_
        refine t_done (by kernel_rfl) ?_
        clear HV HK
        refine x_then ?_
        refine wp_cond_false (by kernel_rfl) ?_
        refine wp_skip ?_
        refine x_inb ?_
        refine x_then ?_
        refine wp_region_lit ?_
        refine ql (.int .i64 i) (by kernel_rfl) (by kernel_rfl) ?_
        refine ql (.int .i64 (i + 1)) (by kernel_rfl) (R_int (by kernel_rfl) (w64 (by omega))) ?_
        refine ql (.int .i64 (i + 1)) (by kernel_rfl) (by kernel_rfl) ?_
        refine wpList_nil ?_
        replace HS := HS.drop1
        replace HS := HS.drop1
        refine x_then ?_
        exact ⟨acts.length - (i + 1).toNat, by omega, (fun k_ : Nat => List.getD ((.int .i64 (ca : Int)) :: (.int .i64 (cb : Int)) :: (.slice (some ad14) acts.length e) :: undef :: undef :: undef :: ((J9 6)) :: (.pointer (some ⟨g, 0, none⟩)) :: (.int .i64 0) :: (.pointer (some ⟨h, 0, none⟩)) :: (.int .i64 0) :: (.pointer (some ⟨g3, 0, none⟩)) :: (.pointer (some ⟨g5, 0, none⟩)) :: (.int .i64 (i + 1)) :: (.pointer (some ⟨g16, 0, none⟩)) :: (.pointer (some ⟨g18, 0, none⟩)) :: (.bool true) :: (.int .i64 (ca : Int)) :: (.bool false) :: (.bool false) :: undef :: undef :: (.bool false) :: (.bool false) :: (.int .i64 (cb : Int)) :: (.bool false) :: (.bool false) :: (.bool false) :: (.int .i64 (cb : Int)) :: (.bool false) :: (.bool false) :: (.bool false) :: (.slice (some ad14) acts.length e) :: (.int .i64 (acts.length : Int)) :: (.bool false) :: (.bool false) :: undef :: (.tuple #[.pointer (some ⟨g, 0, none⟩), .int .i64 0]) :: (.int .i64 (ca : Int)) :: (.tuple #[.pointer (some ⟨g, 0, none⟩), .int .i64 0]) :: (.pointer (some ⟨g, 0, none⟩)) :: (.int .i64 0) :: (.tuple #[.pointer (some ⟨h, 0, none⟩), .int .i64 0]) :: (.int .i64 (cb : Int)) :: (.tuple #[.pointer (some ⟨h, 0, none⟩), .int .i64 0]) :: (.pointer (some ⟨h, 0, none⟩)) :: (.int .i64 0) :: (.int .i64 (ca : Int)) :: (.bool false) :: undef :: undef :: undef :: undef :: undef :: undef :: undef :: undef :: undef :: (.int .i64 (ca : Int)) :: (.bool false) :: undef :: undef :: undef :: undef :: undef :: undef :: undef :: undef :: undef :: (.pointer (some ⟨g, 0, none⟩)) :: (.bool false) :: (.bool false) :: (.pointer (some ⟨h, 0, none⟩)) :: (.bool false) :: (.bool false) :: (.bool false) :: (.int .i64 0) :: (.bool false) :: (.bool false) :: (.bool false) :: (.int .i64 0) :: (.bool false) :: (.bool false) :: (.int .i64 (ca : Int)) :: (.agg #[.slice none 0 0, .int .i64 (ca : Int)]) :: (.int .i64 (cb : Int)) :: (.agg #[.slice none 0 0, .int .i64 (cb : Int)]) :: (.int .i64 i) :: (.slice (some ad14) acts.length e) :: (.int .i64 (acts.length : Int)) :: (.bool true) :: (.int .i64 i) :: (.int .i64 (i + 1)) :: (.tuple #[.agg #[.slice A7 xs7.length c7, .int .i64 (ca : Int)], .agg #[.slice B7 ys7.length d7, .int .i64 (cb : Int)], .bool true]) :: (.pointer (some ⟨g, 0, none⟩)) :: (.pointer (some ⟨h, 0, none⟩)) :: (.agg #[.slice Ax xs.length cx, .int .i64 (ca : Int)]) :: (.agg #[.slice By ys.length dy, .int .i64 (cb : Int)]) :: (.slice (some ad14) acts.length e) :: (.int .i64 i) :: (.pointer (some (ad14.add (i.toNat * 2)))) :: (.agg #[.int .i64 ((gx acts i).1), .int .i64 ((gx acts i).2)]) :: (.tuple #[.agg #[.slice A7 xs7.length c7, .int .i64 (ca : Int)], .agg #[.slice B7 ys7.length d7, .int .i64 (cb : Int)], .bool true]) :: (.agg #[.slice A7 xs7.length c7, .int .i64 (ca : Int)]) :: (.agg #[.slice B7 ys7.length d7, .int .i64 (cb : Int)]) :: (.bool true) :: (.agg #[.slice A7 xs7.length c7, .int .i64 (ca : Int)]) :: (.agg #[.slice B7 ys7.length d7, .int .i64 (cb : Int)]) :: (.bool true) :: (.bool false) :: (.bool false) :: (.pointer (some ⟨g, 0, none⟩)) :: (.int .i64 (xs7.length : Int)) :: (.pointer (some ⟨g3, 0, none⟩)) :: (.slice A7 xs7.length c7) :: (.int .i64 (xs7.length : Int)) :: (.bool false) :: (.bool false) :: (.bool false) :: (.pointer (some ⟨h, 0, none⟩)) :: (.int .i64 (ys7.length : Int)) :: (.pointer (some ⟨g5, 0, none⟩)) :: (.slice B7 ys7.length d7) :: (.int .i64 (ys7.length : Int)) :: (.bool false) :: (.bool false) :: (.bool false) :: (.pointer (some ⟨g, 0, none⟩)) :: (.int .i64 ((ca : Int) - (xs7.length : Int))) :: (.int .i64 (ca : Int)) :: (.pointer (some ⟨g3, 0, none⟩)) :: (.slice A7 xs7.length c7) :: (.int .i64 (xs7.length : Int)) :: (.int .i64 ((ca : Int) - (xs7.length : Int))) :: (.bool false) :: (.bool false) :: (.bool false) :: (.pointer (some ⟨h, 0, none⟩)) :: (.int .i64 ((cb : Int) - (ys7.length : Int))) :: (.int .i64 (cb : Int)) :: (.pointer (some ⟨g5, 0, none⟩)) :: (.slice B7 ys7.length d7) :: (.int .i64 (ys7.length : Int)) :: (.int .i64 ((cb : Int) - (ys7.length : Int))) :: (.bool false) :: (.bool false) :: undef :: undef :: undef :: undef :: undef :: undef :: undef :: undef :: undef :: undef :: undef :: undef :: undef :: undef :: undef :: []) k_ undef), i + 1, xs7, ys7, A7, c7, B7, d7, congrArg Fr (by kernel_rfl), rfl, by omega, by omega, hx7, hy7, hxc7, hyd7, HS⟩
      · skip
        obtain ⟨g29, W30, hg_, hw_, H_, hk_⟩ := ex_blk HS [.slice none 0 0, .int .i64 0] 30
        have hv_g29 := Nat.le_trans HK.size (Nat.le_of_eq (Eq.symm hg_))
        refine t_e2 (n := 4) 14 (.pointer (some ⟨g29, 0, none⟩)) rfl (by kernel_rfl) (by subst hg_; subst hw_; kernel_rfl) (HK.tr hk_) ?_
        replace HK := HK.tr hk_
        clear hk_
        clear hg_ hw_
        replace HS : St W (owns []) W30 [blk g29 [.slice none 0 0, .int .i64 0] 30, blk g [.chan (some p)] 46, chn p ca (xs7.map fun n : Int => Value.int .i64 n), blk h [.chan (some q)] 46, chn q cb (ys7.map fun n : Int => Value.int .i64 n), rde A7 (ci .i64 xs7), rde B7 (ci .i64 ys7), blk g3 [.slice Ax xs.length cx, .int .i64 (ca : Int)] 30, blk g5 [.slice By ys.length dy, .int .i64 (cb : Int)] 30] := H_
        clear H_
        obtain ⟨g31, W32, hg_, hw_, H_, hk_⟩ := ex_blk HS [.slice none 0 0, .int .i64 0] 30
        have hv_g31 := Nat.le_trans HK.size (Nat.le_of_eq (Eq.symm hg_))
        refine t_e (n := 3) 13 (.pointer (some ⟨g31, 0, none⟩)) rfl (by kernel_rfl) (by kernel_rfl) (by subst hg_; subst hw_; kernel_rfl) (HK.tr hk_) ?_
        replace HK := HK.tr hk_
        clear hk_
        clear hg_ hw_
        replace HS : St W (owns []) W32 [blk g31 [.slice none 0 0, .int .i64 0] 30, blk g29 [.slice none 0 0, .int .i64 0] 30, blk g [.chan (some p)] 46, chn p ca (xs7.map fun n : Int => Value.int .i64 n), blk h [.chan (some q)] 46, chn q cb (ys7.map fun n : Int => Value.int .i64 n), rde A7 (ci .i64 xs7), rde B7 (ci .i64 ys7), blk g3 [.slice Ax xs.length cx, .int .i64 (ca : Int)] 30, blk g5 [.slice By ys.length dy, .int .i64 (cb : Int)] 30] := H_
        clear H_
        obtain ⟨W33, hrun_, H_, hk_⟩ := ex_ks (P := Try.prog) (ty := 0) (ps := "law.go:63") (af := #[{ on := 13, ground := Go.Ground.data }, { on := 10, ground := Go.Ground.data }, { on := 8, ground := Go.Ground.chain }, { on := 0, ground := Go.Ground.phase }, { on := 1, ground := Go.Ground.phase }, { on := 2, ground := Go.Ground.phase }, { on := 3, ground := Go.Ground.phase }, { on := 4, ground := Go.Ground.phase }, { on := 5, ground := Go.Ground.phase }, { on := 6, ground := Go.Ground.phase }, { on := 7, ground := Go.Ground.phase }, { on := 8, ground := Go.Ground.phase }, { on := 9, ground := Go.Ground.phase }, { on := 10, ground := Go.Ground.phase }, { on := 11, ground := (Go.Ground.textOnly Go.Departure.lateStores) }, { on := 12, ground := (Go.Ground.textOnly Go.Departure.lateStores) }, { on := 13, ground := Go.Ground.phase }, { on := 14, ground := Go.Ground.phase }]) (gd := none) (t := 30) (x := (Go.Operand.tmp 14)) (y := (Go.Operand.tmp 103)) (v := .agg #[.slice A7 xs7.length c7, .int .i64 (ca : Int)]) HS 0 rfl (0) [.slice A7 xs7.length c7, .int .i64 (ca : Int)] (by kernel_rfl) (by kernel_rfl) (by kernel_rfl) (by kernel_rfl) (one_ (by kernel_rfl)) (Nat.le_of_ble_eq_true rfl)
        replace HK := HK.trans hk_ (fun _ h_ => .inr (Nat.le_trans hv_g31 (Nat.le_of_eq (Eq.symm h_))))
        refine t_s (n := 2) 15 rfl (by kernel_rfl) (by kernel_rfl) hrun_ HK ?_
        clear hk_ hrun_
        replace HS : St W (owns []) W33 [blk g31 [.slice A7 xs7.length c7, .int .i64 (ca : Int)] 30, blk g29 [.slice none 0 0, .int .i64 0] 30, blk g [.chan (some p)] 46, chn p ca (xs7.map fun n : Int => Value.int .i64 n), blk h [.chan (some q)] 46, chn q cb (ys7.map fun n : Int => Value.int .i64 n), rde A7 (ci .i64 xs7), rde B7 (ci .i64 ys7), blk g3 [.slice Ax xs.length cx, .int .i64 (ca : Int)] 30, blk g5 [.slice By ys.length dy, .int .i64 (cb : Int)] 30] := H_
        clear H_
        obtain ⟨W34, hrun_, H_, hk_⟩ := ex_ks (P := Try.prog) (ty := 0) (ps := "law.go:63") (af := #[{ on := 14, ground := Go.Ground.data }, { on := 11, ground := Go.Ground.data }, { on := 15, ground := Go.Ground.chain }, { on := 0, ground := Go.Ground.phase }, { on := 1, ground := Go.Ground.phase }, { on := 2, ground := Go.Ground.phase }, { on := 3, ground := Go.Ground.phase }, { on := 4, ground := Go.Ground.phase }, { on := 5, ground := Go.Ground.phase }, { on := 6, ground := Go.Ground.phase }, { on := 7, ground := Go.Ground.phase }, { on := 8, ground := Go.Ground.phase }, { on := 9, ground := Go.Ground.phase }, { on := 10, ground := Go.Ground.phase }, { on := 11, ground := Go.Ground.phase }, { on := 12, ground := (Go.Ground.textOnly Go.Departure.lateStores) }, { on := 13, ground := Go.Ground.phase }, { on := 14, ground := Go.Ground.phase }, { on := 15, ground := Go.Ground.phase }]) (gd := none) (t := 30) (x := (Go.Operand.tmp 15)) (y := (Go.Operand.tmp 104)) (v := .agg #[.slice B7 ys7.length d7, .int .i64 (cb : Int)]) HS 1 rfl (0) [.slice B7 ys7.length d7, .int .i64 (cb : Int)] (by kernel_rfl) (by kernel_rfl) (by kernel_rfl) (by kernel_rfl) (one_ (by kernel_rfl)) (Nat.le_of_ble_eq_true rfl)
        replace HK := HK.trans hk_ (fun _ h_ => .inr (Nat.le_trans hv_g29 (Nat.le_of_eq (Eq.symm h_))))
        refine t_s (n := 1) 16 rfl (by kernel_rfl) (by kernel_rfl) hrun_ HK ?_
        clear hk_ hrun_
        replace HS : St W (owns []) W34 [blk g31 [.slice A7 xs7.length c7, .int .i64 (ca : Int)] 30, blk g29 [.slice B7 ys7.length d7, .int .i64 (cb : Int)] 30, blk g [.chan (some p)] 46, chn p ca (xs7.map fun n : Int => Value.int .i64 n), blk h [.chan (some q)] 46, chn q cb (ys7.map fun n : Int => Value.int .i64 n), rde A7 (ci .i64 xs7), rde B7 (ci .i64 ys7), blk g3 [.slice Ax xs.length cx, .int .i64 (ca : Int)] 30, blk g5 [.slice By ys.length dy, .int .i64 (cb : Int)] 30] := H_
        clear H_
        refine t_q (n := 0) 17 (.bool true) rfl (by kernel_rfl) (by kernel_rfl) (fun _ _ _ h => h) (fun w' hk => (by kernel_rfl)) HK ?_
        refine t_done (by kernel_rfl) ?_
        clear HV HK
        refine x_then ?_
        refine wp_seq ?_
        refine wp_region_lit ?_
        refine ql (.agg #[.slice A7 xs7.length c7, .int .i64 (ca : Int)]) (by kernel_rfl) (R_loadN (p := ⟨g31, 0, none⟩) [.slice A7 xs7.length c7, .int .i64 (ca : Int)] (by kernel_rfl) (by kernel_rfl) (by kernel_rfl) (by kernel_rfl) (two_at (HS.cell (i := 0) (j := 0) rfl rfl) (HS.cell (i := 0) (j := 1) rfl rfl))) ?_
        refine ks (v := .agg #[.slice A7 xs7.length c7, .int .i64 (ca : Int)]) HS 8 rfl (0) [.slice A7 xs7.length c7, .int .i64 (ca : Int)] (by kernel_rfl) (by kernel_rfl) (by kernel_rfl) (by kernel_rfl) (by kernel_rfl) (one_ (by kernel_rfl)) (Nat.le_of_ble_eq_true rfl) rfl ?_
        intro W35 H_
        replace HS : St W (owns []) W35 [blk g31 [.slice A7 xs7.length c7, .int .i64 (ca : Int)] 30, blk g29 [.slice B7 ys7.length d7, .int .i64 (cb : Int)] 30, blk g [.chan (some p)] 46, chn p ca (xs7.map fun n : Int => Value.int .i64 n), blk h [.chan (some q)] 46, chn q cb (ys7.map fun n : Int => Value.int .i64 n), rde A7 (ci .i64 xs7), rde B7 (ci .i64 ys7), blk g3 [.slice A7 xs7.length c7, .int .i64 (ca : Int)] 30, blk g5 [.slice By ys.length dy, .int .i64 (cb : Int)] 30] := H_
        clear H_
        refine wpList_nil ?_
        refine x_then ?_
        refine wp_seq ?_
        refine wp_region_lit ?_
        refine ql (.agg #[.slice B7 ys7.length d7, .int .i64 (cb : Int)]) (by kernel_rfl) (R_loadN (p := ⟨g29, 0, none⟩) [.slice B7 ys7.length d7, .int .i64 (cb : Int)] (by kernel_rfl) (by kernel_rfl) (by kernel_rfl) (by kernel_rfl) (two_at (HS.cell (i := 1) (j := 0) rfl rfl) (HS.cell (i := 1) (j := 1) rfl rfl))) ?_
        refine ks (v := .agg #[.slice B7 ys7.length d7, .int .i64 (cb : Int)]) HS 9 rfl (0) [.slice B7 ys7.length d7, .int .i64 (cb : Int)] (by kernel_rfl) (by kernel_rfl) (by kernel_rfl) (by kernel_rfl) (by kernel_rfl) (one_ (by kernel_rfl)) (Nat.le_of_ble_eq_true rfl) rfl ?_
        intro W36 H_
        replace HS : St W (owns []) W36 [blk g31 [.slice A7 xs7.length c7, .int .i64 (ca : Int)] 30, blk g29 [.slice B7 ys7.length d7, .int .i64 (cb : Int)] 30, blk g [.chan (some p)] 46, chn p ca (xs7.map fun n : Int => Value.int .i64 n), blk h [.chan (some q)] 46, chn q cb (ys7.map fun n : Int => Value.int .i64 n), rde A7 (ci .i64 xs7), rde B7 (ci .i64 ys7), blk g3 [.slice A7 xs7.length c7, .int .i64 (ca : Int)] 30, blk g5 [.slice B7 ys7.length d7, .int .i64 (cb : Int)] 30] := H_
        clear H_
        refine wpList_nil ?_
        refine x_then ?_
        refine wp_seq ?_
        refine t_start HS (fun _ => False) 38 (by kernel_rfl) rfl ?_
        intro W37 H_ HD_
        clear HD_
        replace HS : St W (owns []) W37 [blk g31 [.slice A7 xs7.length c7, .int .i64 (ca : Int)] 30, blk g29 [.slice B7 ys7.length d7, .int .i64 (cb : Int)] 30, blk g [.chan (some p)] 46, chn p ca (xs7.map fun n : Int => Value.int .i64 n), blk h [.chan (some q)] 46, chn q cb (ys7.map fun n : Int => Value.int .i64 n), rde A7 (ci .i64 xs7), rde B7 (ci .i64 ys7), blk g3 [.slice A7 xs7.length c7, .int .i64 (ca : Int)] 30, blk g5 [.slice B7 ys7.length d7, .int .i64 (cb : Int)] 30] := H_
        clear H_
        have HV := HS
        have HK := Kpt.refl (fun _ => False) W37
        refine t_q (n := 37) 0 (.bool true) rfl (by kernel_rfl) (by kernel_rfl) (fun _ _ _ h => h) (fun w' hk => (by kernel_rfl)) HK ?_
        refine t_q (n := 36) 1 (.bool false) rfl (by kernel_rfl) (by kernel_rfl) (fun _ _ _ h => h) (fun w' hk => (by kernel_rfl)) HK ?_
        refine t_q (n := 35) 2 (.bool false) rfl (by kernel_rfl) (by kernel_rfl) (fun _ _ _ h => h) (fun w' hk => (by kernel_rfl)) HK ?_
        refine t_q (n := 34) 3 (.pointer (some ⟨g, 0, none⟩)) rfl (by kernel_rfl) (by kernel_rfl) (fun _ _ _ h => h) (fun w' hk => (by kernel_rfl)) HK ?_
        refine t_q (n := 33) 5 (.pointer (some ⟨g3, 0, none⟩)) rfl (by kernel_rfl) (by kernel_rfl) (fun _ _ _ h => h) (fun w' hk => (by kernel_rfl)) HK ?_
        refine t_q (n := 32) 6 (.slice A7 xs7.length c7) rfl (by kernel_rfl) (by kernel_rfl) (fun _ _ _ h => h) (fun w' hk => (R_load (p := ⟨g3, 0, none⟩) (by kernel_rfl) (by kernel_rfl) (by kernel_rfl) (hk.cell (HV.cell (i := 8) (j := 0) rfl rfl)))) HK ?_
        refine t_q (n := 31) 7 (.int .i64 (xs7.length : Int)) rfl (by kernel_rfl) (by kernel_rfl) (fun _ _ _ h => h) (fun w' hk => (by kernel_rfl)) HK ?_
        refine t_c (n := 30) 4 (f := 7) (args := #[.pointer (some ⟨g, 0, none⟩)]) rfl (by kernel_rfl) (by kernel_rfl) (R_call #[.pointer (some ⟨g, 0, none⟩)] Try.func7 (by kernel_rfl) (by kernel_rfl) (by kernel_rfl)) ?_
        refine (plen g p ca xs7 _ (HS.cell (i := 2) (j := 0) rfl rfl) (HS.get (i := 3) rfl) (by omega) (by omega)).mono ?_
        rintro e W38 ⟨rfl, H_⟩
        refine ⟨_, rfl, HK.tr H_.kept.nil, ?_⟩
        replace HK := HK.tr H_.kept.nil
        replace HS : St W (owns []) W38 [blk g31 [.slice A7 xs7.length c7, .int .i64 (ca : Int)] 30, blk g29 [.slice B7 ys7.length d7, .int .i64 (cb : Int)] 30, blk g [.chan (some p)] 46, chn p ca (xs7.map fun n : Int => Value.int .i64 n), blk h [.chan (some q)] 46, chn q cb (ys7.map fun n : Int => Value.int .i64 n), rde A7 (ci .i64 xs7), rde B7 (ci .i64 ys7), blk g3 [.slice A7 xs7.length c7, .int .i64 (ca : Int)] 30, blk g5 [.slice B7 ys7.length d7, .int .i64 (cb : Int)] 30] := HS.join (F := []) (G := []) H_
        clear H_
        refine t_q (n := 29) 8 (.bool false) rfl (by kernel_rfl) (by kernel_rfl) (fun _ _ _ h => h) (fun w' hk => (R_beq (b := ((xs7.length : Int) != (xs7.length : Int))) (by kernel_rfl) (bne_f (by omega)))) HK ?_
        refine t_q (n := 28) 9 (.bool false) rfl (by kernel_rfl) (by kernel_rfl) (fun _ _ _ h => h) (fun w' hk => (by kernel_rfl)) HK ?_
        refine t_q (n := 27) 10 (.bool false) rfl (by kernel_rfl) (by kernel_rfl) (fun _ _ _ h => h) (fun w' hk => (by kernel_rfl)) HK ?_
        refine t_q (n := 26) 11 (.pointer (some ⟨h, 0, none⟩)) rfl (by kernel_rfl) (by kernel_rfl) (fun _ _ _ h => h) (fun w' hk => (by kernel_rfl)) HK ?_
        refine t_q (n := 25) 13 (.pointer (some ⟨g5, 0, none⟩)) rfl (by kernel_rfl) (by kernel_rfl) (fun _ _ _ h => h) (fun w' hk => (by kernel_rfl)) HK ?_
        refine t_q (n := 24) 14 (.slice B7 ys7.length d7) rfl (by kernel_rfl) (by kernel_rfl) (fun _ _ _ h => h) (fun w' hk => (R_load (p := ⟨g5, 0, none⟩) (by kernel_rfl) (by kernel_rfl) (by kernel_rfl) (hk.cell (HV.cell (i := 9) (j := 0) rfl rfl)))) HK ?_
        refine t_q (n := 23) 15 (.int .i64 (ys7.length : Int)) rfl (by kernel_rfl) (by kernel_rfl) (fun _ _ _ h => h) (fun w' hk => (by kernel_rfl)) HK ?_
        refine t_c (n := 22) 12 (f := 7) (args := #[.pointer (some ⟨h, 0, none⟩)]) rfl (by kernel_rfl) (by kernel_rfl) (R_call #[.pointer (some ⟨h, 0, none⟩)] Try.func7 (by kernel_rfl) (by kernel_rfl) (by kernel_rfl)) ?_
        refine (plen h q cb ys7 _ (HS.cell (i := 4) (j := 0) rfl rfl) (HS.get (i := 5) rfl) (by omega) (by omega)).mono ?_
        rintro e W39 ⟨rfl, H_⟩
        refine ⟨_, rfl, HK.tr H_.kept.nil, ?_⟩
        replace HK := HK.tr H_.kept.nil
        replace HS : St W (owns []) W39 [blk g31 [.slice A7 xs7.length c7, .int .i64 (ca : Int)] 30, blk g29 [.slice B7 ys7.length d7, .int .i64 (cb : Int)] 30, blk g [.chan (some p)] 46, chn p ca (xs7.map fun n : Int => Value.int .i64 n), blk h [.chan (some q)] 46, chn q cb (ys7.map fun n : Int => Value.int .i64 n), rde A7 (ci .i64 xs7), rde B7 (ci .i64 ys7), blk g3 [.slice A7 xs7.length c7, .int .i64 (ca : Int)] 30, blk g5 [.slice B7 ys7.length d7, .int .i64 (cb : Int)] 30] := HS.join (F := []) (G := []) H_
        clear H_
        refine t_q (n := 21) 16 (.bool false) rfl (by kernel_rfl) (by kernel_rfl) (fun _ _ _ h => h) (fun w' hk => (R_beq (b := ((ys7.length : Int) != (ys7.length : Int))) (by kernel_rfl) (bne_f (by omega)))) HK ?_
        refine t_q (n := 20) 17 (.bool false) rfl (by kernel_rfl) (by kernel_rfl) (fun _ _ _ h => h) (fun w' hk => (by kernel_rfl)) HK ?_
        refine t_q (n := 19) 18 (.bool false) rfl (by kernel_rfl) (by kernel_rfl) (fun _ _ _ h => h) (fun w' hk => (by kernel_rfl)) HK ?_
        refine t_q (n := 18) 19 (.pointer (some ⟨g, 0, none⟩)) rfl (by kernel_rfl) (by kernel_rfl) (fun _ _ _ h => h) (fun w' hk => (by kernel_rfl)) HK ?_
        refine t_q (n := 17) 21 (.int .i64 (ca : Int)) rfl (by kernel_rfl) (by kernel_rfl) (fun _ _ _ h => h) (fun w' hk => (by kernel_rfl)) HK ?_
        refine t_q (n := 16) 22 (.pointer (some ⟨g3, 0, none⟩)) rfl (by kernel_rfl) (by kernel_rfl) (fun _ _ _ h => h) (fun w' hk => (by kernel_rfl)) HK ?_
        refine t_q (n := 15) 23 (.slice A7 xs7.length c7) rfl (by kernel_rfl) (by kernel_rfl) (fun _ _ _ h => h) (fun w' hk => (R_load (p := ⟨g3, 0, none⟩) (by kernel_rfl) (by kernel_rfl) (by kernel_rfl) (hk.cell (HV.cell (i := 8) (j := 0) rfl rfl)))) HK ?_
        refine t_q (n := 14) 24 (.int .i64 (xs7.length : Int)) rfl (by kernel_rfl) (by kernel_rfl) (fun _ _ _ h => h) (fun w' hk => (by kernel_rfl)) HK ?_
        refine t_q (n := 13) 25 (.int .i64 ((ca : Int) - (xs7.length : Int))) rfl (by kernel_rfl) (by kernel_rfl) (fun _ _ _ h => h) (fun w' hk => (R_int (by kernel_rfl) (w64 (by omega)))) HK ?_
        refine t_c (n := 12) 20 (f := 8) (args := #[.pointer (some ⟨g, 0, none⟩)]) rfl (by kernel_rfl) (by kernel_rfl) (R_call #[.pointer (some ⟨g, 0, none⟩)] Try.func8 (by kernel_rfl) (by kernel_rfl) (by kernel_rfl)) ?_
        refine (proom g p ca xs7 _ (HS.cell (i := 2) (j := 0) rfl rfl) (HS.get (i := 3) rfl) (by omega) (by omega)).mono ?_
        rintro e W40 ⟨rfl, H_⟩
        refine ⟨_, rfl, HK.tr H_.kept.nil, ?_⟩
        replace HK := HK.tr H_.kept.nil
        replace HS : St W (owns []) W40 [blk g31 [.slice A7 xs7.length c7, .int .i64 (ca : Int)] 30, blk g29 [.slice B7 ys7.length d7, .int .i64 (cb : Int)] 30, blk g [.chan (some p)] 46, chn p ca (xs7.map fun n : Int => Value.int .i64 n), blk h [.chan (some q)] 46, chn q cb (ys7.map fun n : Int => Value.int .i64 n), rde A7 (ci .i64 xs7), rde B7 (ci .i64 ys7), blk g3 [.slice A7 xs7.length c7, .int .i64 (ca : Int)] 30, blk g5 [.slice B7 ys7.length d7, .int .i64 (cb : Int)] 30] := HS.join (F := []) (G := []) H_
        clear H_
        refine t_q (n := 11) 26 (.bool false) rfl (by kernel_rfl) (by kernel_rfl) (fun _ _ _ h => h) (fun w' hk => (R_beq (b := ((ca : Int) - (xs7.length : Int) != (ca : Int) - (xs7.length : Int))) (by kernel_rfl) (bne_f (by omega)))) HK ?_
        refine t_q (n := 10) 27 (.bool false) rfl (by kernel_rfl) (by kernel_rfl) (fun _ _ _ h => h) (fun w' hk => (by kernel_rfl)) HK ?_
        refine t_q (n := 9) 28 (.bool false) rfl (by kernel_rfl) (by kernel_rfl) (fun _ _ _ h => h) (fun w' hk => (by kernel_rfl)) HK ?_
        refine t_q (n := 8) 29 (.pointer (some ⟨h, 0, none⟩)) rfl (by kernel_rfl) (by kernel_rfl) (fun _ _ _ h => h) (fun w' hk => (by kernel_rfl)) HK ?_
        refine t_q (n := 7) 31 (.int .i64 (cb : Int)) rfl (by kernel_rfl) (by kernel_rfl) (fun _ _ _ h => h) (fun w' hk => (by kernel_rfl)) HK ?_
        refine t_q (n := 6) 32 (.pointer (some ⟨g5, 0, none⟩)) rfl (by kernel_rfl) (by kernel_rfl) (fun _ _ _ h => h) (fun w' hk => (by kernel_rfl)) HK ?_
        refine t_q (n := 5) 33 (.slice B7 ys7.length d7) rfl (by kernel_rfl) (by kernel_rfl) (fun _ _ _ h => h) (fun w' hk => (R_load (p := ⟨g5, 0, none⟩) (by kernel_rfl) (by kernel_rfl) (by kernel_rfl) (hk.cell (HV.cell (i := 9) (j := 0) rfl rfl)))) HK ?_
        refine t_q (n := 4) 34 (.int .i64 (ys7.length : Int)) rfl (by kernel_rfl) (by kernel_rfl) (fun _ _ _ h => h) (fun w' hk => (by kernel_rfl)) HK ?_
        refine t_q (n := 3) 35 (.int .i64 ((cb : Int) - (ys7.length : Int))) rfl (by kernel_rfl) (by kernel_rfl) (fun _ _ _ h => h) (fun w' hk => (R_int (by kernel_rfl) (w64 (by omega)))) HK ?_
        refine t_c (n := 2) 30 (f := 8) (args := #[.pointer (some ⟨h, 0, none⟩)]) rfl (by kernel_rfl) (by kernel_rfl) (R_call #[.pointer (some ⟨h, 0, none⟩)] Try.func8 (by kernel_rfl) (by kernel_rfl) (by kernel_rfl)) ?_
        refine (proom h q cb ys7 _ (HS.cell (i := 4) (j := 0) rfl rfl) (HS.get (i := 5) rfl) (by omega) (by omega)).mono ?_
        rintro e W41 ⟨rfl, H_⟩
        refine ⟨_, rfl, HK.tr H_.kept.nil, ?_⟩
        replace HK := HK.tr H_.kept.nil
        replace HS : St W (owns []) W41 [blk g31 [.slice A7 xs7.length c7, .int .i64 (ca : Int)] 30, blk g29 [.slice B7 ys7.length d7, .int .i64 (cb : Int)] 30, blk g [.chan (some p)] 46, chn p ca (xs7.map fun n : Int => Value.int .i64 n), blk h [.chan (some q)] 46, chn q cb (ys7.map fun n : Int => Value.int .i64 n), rde A7 (ci .i64 xs7), rde B7 (ci .i64 ys7), blk g3 [.slice A7 xs7.length c7, .int .i64 (ca : Int)] 30, blk g5 [.slice B7 ys7.length d7, .int .i64 (cb : Int)] 30] := HS.join (F := []) (G := []) H_
        clear H_
        refine t_q (n := 1) 36 (.bool false) rfl (by kernel_rfl) (by kernel_rfl) (fun _ _ _ h => h) (fun w' hk => (R_beq (b := ((cb : Int) - (ys7.length : Int) != (cb : Int) - (ys7.length : Int))) (by kernel_rfl) (bne_f (by omega)))) HK ?_
        refine t_q (n := 0) 37 (.bool false) rfl (by kernel_rfl) (by kernel_rfl) (fun _ _ _ h => h) (fun w' hk => (by kernel_rfl)) HK ?_
        refine t_done (by kernel_rfl) ?_
        clear HV HK
        refine x_then ?_
        refine wp_cond_false (by kernel_rfl) ?_
        refine wp_skip ?_
        refine x_inb ?_
        refine x_then ?_
        refine wp_region_lit ?_
        refine ql (.int .i64 i) (by kernel_rfl) (by kernel_rfl) ?_
        refine ql (.int .i64 (i + 1)) (by kernel_rfl) (R_int (by kernel_rfl) (w64 (by omega))) ?_
        refine ql (.int .i64 (i + 1)) (by kernel_rfl) (by kernel_rfl) ?_
        refine wpList_nil ?_
        replace HS := HS.drop1
        replace HS := HS.drop1
        refine x_then ?_
        exact ⟨acts.length - (i + 1).toNat, by omega, (fun k_ : Nat => List.getD ((.int .i64 (ca : Int)) :: (.int .i64 (cb : Int)) :: (.slice (some ad14) acts.length e) :: undef :: undef :: undef :: ((J9 6)) :: (.pointer (some ⟨g, 0, none⟩)) :: (.int .i64 0) :: (.pointer (some ⟨h, 0, none⟩)) :: (.int .i64 0) :: (.pointer (some ⟨g3, 0, none⟩)) :: (.pointer (some ⟨g5, 0, none⟩)) :: (.int .i64 (i + 1)) :: (.pointer (some ⟨g31, 0, none⟩)) :: (.pointer (some ⟨g29, 0, none⟩)) :: (.bool true) :: (.int .i64 (ca : Int)) :: (.bool false) :: (.bool false) :: undef :: undef :: (.bool false) :: (.bool false) :: (.int .i64 (cb : Int)) :: (.bool false) :: (.bool false) :: (.bool false) :: (.int .i64 (cb : Int)) :: (.bool false) :: (.bool false) :: (.bool false) :: (.slice (some ad14) acts.length e) :: (.int .i64 (acts.length : Int)) :: (.bool false) :: (.bool false) :: undef :: (.tuple #[.pointer (some ⟨g, 0, none⟩), .int .i64 0]) :: (.int .i64 (ca : Int)) :: (.tuple #[.pointer (some ⟨g, 0, none⟩), .int .i64 0]) :: (.pointer (some ⟨g, 0, none⟩)) :: (.int .i64 0) :: (.tuple #[.pointer (some ⟨h, 0, none⟩), .int .i64 0]) :: (.int .i64 (cb : Int)) :: (.tuple #[.pointer (some ⟨h, 0, none⟩), .int .i64 0]) :: (.pointer (some ⟨h, 0, none⟩)) :: (.int .i64 0) :: (.int .i64 (ca : Int)) :: (.bool false) :: undef :: undef :: undef :: undef :: undef :: undef :: undef :: undef :: undef :: (.int .i64 (ca : Int)) :: (.bool false) :: undef :: undef :: undef :: undef :: undef :: undef :: undef :: undef :: undef :: (.pointer (some ⟨g, 0, none⟩)) :: (.bool false) :: (.bool false) :: (.pointer (some ⟨h, 0, none⟩)) :: (.bool false) :: (.bool false) :: (.bool false) :: (.int .i64 0) :: (.bool false) :: (.bool false) :: (.bool false) :: (.int .i64 0) :: (.bool false) :: (.bool false) :: (.int .i64 (ca : Int)) :: (.agg #[.slice none 0 0, .int .i64 (ca : Int)]) :: (.int .i64 (cb : Int)) :: (.agg #[.slice none 0 0, .int .i64 (cb : Int)]) :: (.int .i64 i) :: (.slice (some ad14) acts.length e) :: (.int .i64 (acts.length : Int)) :: (.bool true) :: (.int .i64 i) :: (.int .i64 (i + 1)) :: (.tuple #[.agg #[.slice A7 xs7.length c7, .int .i64 (ca : Int)], .agg #[.slice B7 ys7.length d7, .int .i64 (cb : Int)], .bool true]) :: (.pointer (some ⟨g, 0, none⟩)) :: (.pointer (some ⟨h, 0, none⟩)) :: (.agg #[.slice Ax xs.length cx, .int .i64 (ca : Int)]) :: (.agg #[.slice By ys.length dy, .int .i64 (cb : Int)]) :: (.slice (some ad14) acts.length e) :: (.int .i64 i) :: (.pointer (some (ad14.add (i.toNat * 2)))) :: (.agg #[.int .i64 ((gx acts i).1), .int .i64 ((gx acts i).2)]) :: (.tuple #[.agg #[.slice A7 xs7.length c7, .int .i64 (ca : Int)], .agg #[.slice B7 ys7.length d7, .int .i64 (cb : Int)], .bool true]) :: (.agg #[.slice A7 xs7.length c7, .int .i64 (ca : Int)]) :: (.agg #[.slice B7 ys7.length d7, .int .i64 (cb : Int)]) :: (.bool true) :: (.agg #[.slice A7 xs7.length c7, .int .i64 (ca : Int)]) :: (.agg #[.slice B7 ys7.length d7, .int .i64 (cb : Int)]) :: (.bool true) :: (.bool false) :: (.bool false) :: (.pointer (some ⟨g, 0, none⟩)) :: (.int .i64 (xs7.length : Int)) :: (.pointer (some ⟨g3, 0, none⟩)) :: (.slice A7 xs7.length c7) :: (.int .i64 (xs7.length : Int)) :: (.bool false) :: (.bool false) :: (.bool false) :: (.pointer (some ⟨h, 0, none⟩)) :: (.int .i64 (ys7.length : Int)) :: (.pointer (some ⟨g5, 0, none⟩)) :: (.slice B7 ys7.length d7) :: (.int .i64 (ys7.length : Int)) :: (.bool false) :: (.bool false) :: (.bool false) :: (.pointer (some ⟨g, 0, none⟩)) :: (.int .i64 ((ca : Int) - (xs7.length : Int))) :: (.int .i64 (ca : Int)) :: (.pointer (some ⟨g3, 0, none⟩)) :: (.slice A7 xs7.length c7) :: (.int .i64 (xs7.length : Int)) :: (.int .i64 ((ca : Int) - (xs7.length : Int))) :: (.bool false) :: (.bool false) :: (.bool false) :: (.pointer (some ⟨h, 0, none⟩)) :: (.int .i64 ((cb : Int) - (ys7.length : Int))) :: (.int .i64 (cb : Int)) :: (.pointer (some ⟨g5, 0, none⟩)) :: (.slice B7 ys7.length d7) :: (.int .i64 (ys7.length : Int)) :: (.int .i64 ((cb : Int) - (ys7.length : Int))) :: (.bool false) :: (.bool false) :: undef :: undef :: undef :: undef :: undef :: undef :: undef :: undef :: undef :: undef :: undef :: undef :: undef :: undef :: undef :: []) k_ undef), i + 1, xs7, ys7, A7, c7, B7, d7, congrArg Fr (by kernel_rfl), rfl, by omega, by omega, hx7, hy7, hxc7, hyd7, HS⟩
    · skip
      obtain ⟨g42, W43, hg_, hw_, H_, hk_⟩ := ex_blk HS [.slice none 0 0, .int .i64 0] 30
      have hv_g42 := Nat.le_trans HK.size (Nat.le_of_eq (Eq.symm hg_))
      refine t_e2 (n := 9) 13 (.pointer (some ⟨g42, 0, none⟩)) rfl (by kernel_rfl) (by subst hg_; subst hw_; kernel_rfl) (HK.tr hk_) ?_
      replace HK := HK.tr hk_
      clear hk_
      clear hg_ hw_
      replace HS : St W (owns []) W43 [blk g42 [.slice none 0 0, .int .i64 0] 30, blk g [.chan (some p)] 46, chn p ca (xs.map fun n : Int => Value.int .i64 n), blk h [.chan (some q)] 46, chn q cb (ys.map fun n : Int => Value.int .i64 n), rde Ax (ci .i64 xs), rde By (ci .i64 ys), blk g3 [.slice Ax xs.length cx, .int .i64 (ca : Int)] 30, blk g5 [.slice By ys.length dy, .int .i64 (cb : Int)] 30] := H_
      clear H_
      refine t_pick2 (n := 8) 8 14 (by kernel_rfl) ?_ ?_
      · skip
        refine t_c2 (n := 8) 8 (f := 6) (args := #[.pointer (some ⟨g, 0, none⟩), .pointer (some ⟨h, 0, none⟩), .agg #[.slice Ax xs.length cx, .int .i64 (ca : Int)], .agg #[.slice By ys.length dy, .int .i64 (cb : Int)], .agg #[.int .i64 ((gx acts i).1), .int .i64 ((gx acts i).2)]]) rfl (by kernel_rfl) (R_call #[.pointer (some ⟨g, 0, none⟩), .pointer (some ⟨h, 0, none⟩), .agg #[.slice Ax xs.length cx, .int .i64 (ca : Int)], .agg #[.slice By ys.length dy, .int .i64 (cb : Int)], .agg #[.int .i64 ((gx acts i).1), .int .i64 ((gx acts i).2)]] Try.func6 (by kernel_rfl) (by kernel_rfl) (by kernel_rfl)) ?_
        replace HS : St W (owns []) W43 [blk g [.chan (some p)] 46, chn p ca (xs.map fun n : Int => Value.int .i64 n), blk h [.chan (some q)] 46, chn q cb (ys.map fun n : Int => Value.int .i64 n), rde Ax (ci .i64 xs), rde By (ci .i64 ys), blk g42 [.slice none 0 0, .int .i64 0] 30, blk g3 [.slice Ax xs.length cx, .int .i64 (ca : Int)] 30, blk g5 [.slice By ys.length dy, .int .i64 (cb : Int)] 30] := HS.perm (perm_ [1, 2, 3, 4, 5, 6, 0, 7, 8] (by kernel_rfl) rfl)
        refine (does_t g p ca h q cb Ax cx xs By dy ys ((gx acts i).1) ((gx acts i).2) _ _ (St.focus (F := [blk g [.chan (some p)] 46, chn p ca (xs.map fun n : Int => Value.int .i64 n), blk h [.chan (some q)] 46, chn q cb (ys.map fun n : Int => Value.int .i64 n), rde Ax (ci .i64 xs), rde By (ci .i64 ys)]) HS) (by omega) (by omega) hx hy hxc hyd).mono ?_
        rintro e W44 ⟨xs7, ys7, A7, c7, B7, d7, rfl, H_, hx7, hy7, hxc7, hyd7⟩
        have hkf_ : ∀ k_, owns [blk g [.chan (some p)] 46, chn p ca (xs.map fun n : Int => Value.int .i64 n), blk h [.chan (some q)] 46, chn q cb (ys.map fun n : Int => Value.int .i64 n), rde Ax (ci .i64 xs), rde By (ci .i64 ys)] k_ → (blk g [.chan (some p)] 46).own k_ ∨ (chn p ca (xs.map fun n : Int => Value.int .i64 n)).own k_ ∨ (blk h [.chan (some q)] 46).own k_ ∨ (chn q cb (ys.map fun n : Int => Value.int .i64 n)).own k_ ∨ (rde Ax (ci .i64 xs)).own k_ ∨ (rde By (ci .i64 ys)).own k_ := by
          intro k_ h_; obtain ⟨e_, he_, ho_⟩ := h_; simp only [List.mem_cons, List.not_mem_nil, or_false] at he_; rcases he_ with rfl | rfl | rfl | rfl | rfl | rfl <;> first | exact (.inl ho_) | exact (.inr (.inl ho_)) | exact (.inr (.inr (.inl ho_))) | exact (.inr (.inr (.inr (.inl ho_)))) | exact (.inr (.inr (.inr (.inr (.inl ho_))))) | exact (.inr (.inr (.inr (.inr (.inr ho_)))))
        refine ⟨_, rfl, HK.trans H_.kept (fun _ h_ => .inl (hkf_ _ h_)), ?_⟩
        replace HK := HK.trans H_.kept (fun _ h_ => .inl (hkf_ _ h_))
        replace HS : St W (owns []) W44 [blk g [.chan (some p)] 46, chn p ca (xs7.map fun n : Int => Value.int .i64 n), blk h [.chan (some q)] 46, chn q cb (ys7.map fun n : Int => Value.int .i64 n), rde A7 (ci .i64 xs7), rde B7 (ci .i64 ys7), blk g42 [.slice none 0 0, .int .i64 0] 30, blk g3 [.slice Ax xs.length cx, .int .i64 (ca : Int)] 30, blk g5 [.slice By ys.length dy, .int .i64 (cb : Int)] 30] := HS.join (F := [blk g [.chan (some p)] 46, chn p ca (xs.map fun n : Int => Value.int .i64 n), blk h [.chan (some q)] 46, chn q cb (ys.map fun n : Int => Value.int .i64 n), rde Ax (ci .i64 xs), rde By (ci .i64 ys)]) (G := [blk g [.chan (some p)] 46, chn p ca (xs7.map fun n : Int => Value.int .i64 n), blk h [.chan (some q)] 46, chn q cb (ys7.map fun n : Int => Value.int .i64 n), rde A7 (ci .i64 xs7), rde B7 (ci .i64 ys7)]) H_
        clear H_
        refine t_q (n := 7) 9 (.tuple #[.agg #[.slice A7 xs7.length c7, .int .i64 (ca : Int)], .agg #[.slice B7 ys7.length d7, .int .i64 (cb : Int)], .bool true]) rfl (by kernel_rfl) (by kernel_rfl) (fun _ _ _ h => h) (fun w' hk => (by kernel_rfl)) HK ?_
        refine t_q (n := 6) 10 (.agg #[.slice A7 xs7.length c7, .int .i64 (ca : Int)]) rfl (by kernel_rfl) (by kernel_rfl) (fun _ _ _ h => h) (fun w' hk => (by kernel_rfl)) HK ?_
        refine t_q (n := 5) 11 (.agg #[.slice B7 ys7.length d7, .int .i64 (cb : Int)]) rfl (by kernel_rfl) (by kernel_rfl) (fun _ _ _ h => h) (fun w' hk => (by kernel_rfl)) HK ?_
        refine t_q (n := 4) 12 (.bool true) rfl (by kernel_rfl) (by kernel_rfl) (fun _ _ _ h => h) (fun w' hk => (by kernel_rfl)) HK ?_
        obtain ⟨g45, W46, hg_, hw_, H_, hk_⟩ := ex_blk HS [.slice none 0 0, .int .i64 0] 30
        have hv_g45 := Nat.le_trans HK.size (Nat.le_of_eq (Eq.symm hg_))
        refine t_e (n := 3) 14 (.pointer (some ⟨g45, 0, none⟩)) rfl (by kernel_rfl) (by kernel_rfl) (by subst hg_; subst hw_; kernel_rfl) (HK.tr hk_) ?_
        replace HK := HK.tr hk_
        clear hk_
        clear hg_ hw_
        replace HS : St W (owns []) W46 [blk g45 [.slice none 0 0, .int .i64 0] 30, blk g [.chan (some p)] 46, chn p ca (xs7.map fun n : Int => Value.int .i64 n), blk h [.chan (some q)] 46, chn q cb (ys7.map fun n : Int => Value.int .i64 n), rde A7 (ci .i64 xs7), rde B7 (ci .i64 ys7), blk g42 [.slice none 0 0, .int .i64 0] 30, blk g3 [.slice Ax xs.length cx, .int .i64 (ca : Int)] 30, blk g5 [.slice By ys.length dy, .int .i64 (cb : Int)] 30] := H_
        clear H_
        obtain ⟨W47, hrun_, H_, hk_⟩ := ex_ks (P := Try.prog) (ty := 0) (ps := "law.go:63") (af := #[{ on := 13, ground := Go.Ground.data }, { on := 10, ground := Go.Ground.data }, { on := 8, ground := Go.Ground.chain }, { on := 0, ground := Go.Ground.phase }, { on := 1, ground := Go.Ground.phase }, { on := 2, ground := Go.Ground.phase }, { on := 3, ground := Go.Ground.phase }, { on := 4, ground := Go.Ground.phase }, { on := 5, ground := Go.Ground.phase }, { on := 6, ground := Go.Ground.phase }, { on := 7, ground := Go.Ground.phase }, { on := 8, ground := Go.Ground.phase }, { on := 9, ground := Go.Ground.phase }, { on := 10, ground := Go.Ground.phase }, { on := 11, ground := (Go.Ground.textOnly Go.Departure.lateStores) }, { on := 12, ground := (Go.Ground.textOnly Go.Departure.lateStores) }, { on := 13, ground := Go.Ground.phase }, { on := 14, ground := Go.Ground.phase }]) (gd := none) (t := 30) (x := (Go.Operand.tmp 14)) (y := (Go.Operand.tmp 103)) (v := .agg #[.slice A7 xs7.length c7, .int .i64 (ca : Int)]) HS 7 rfl (0) [.slice A7 xs7.length c7, .int .i64 (ca : Int)] (by kernel_rfl) (by kernel_rfl) (by kernel_rfl) (by kernel_rfl) (one_ (by kernel_rfl)) (Nat.le_of_ble_eq_true rfl)
        replace HK := HK.trans hk_ (fun _ h_ => .inr (Nat.le_trans hv_g42 (Nat.le_of_eq (Eq.symm h_))))
        refine t_s (n := 2) 15 rfl (by kernel_rfl) (by kernel_rfl) hrun_ HK ?_
        clear hk_ hrun_
        replace HS : St W (owns []) W47 [blk g45 [.slice none 0 0, .int .i64 0] 30, blk g [.chan (some p)] 46, chn p ca (xs7.map fun n : Int => Value.int .i64 n), blk h [.chan (some q)] 46, chn q cb (ys7.map fun n : Int => Value.int .i64 n), rde A7 (ci .i64 xs7), rde B7 (ci .i64 ys7), blk g42 [.slice A7 xs7.length c7, .int .i64 (ca : Int)] 30, blk g3 [.slice Ax xs.length cx, .int .i64 (ca : Int)] 30, blk g5 [.slice By ys.length dy, .int .i64 (cb : Int)] 30] := H_
        clear H_
        obtain ⟨W48, hrun_, H_, hk_⟩ := ex_ks (P := Try.prog) (ty := 0) (ps := "law.go:63") (af := #[{ on := 14, ground := Go.Ground.data }, { on := 11, ground := Go.Ground.data }, { on := 15, ground := Go.Ground.chain }, { on := 0, ground := Go.Ground.phase }, { on := 1, ground := Go.Ground.phase }, { on := 2, ground := Go.Ground.phase }, { on := 3, ground := Go.Ground.phase }, { on := 4, ground := Go.Ground.phase }, { on := 5, ground := Go.Ground.phase }, { on := 6, ground := Go.Ground.phase }, { on := 7, ground := Go.Ground.phase }, { on := 8, ground := Go.Ground.phase }, { on := 9, ground := Go.Ground.phase }, { on := 10, ground := Go.Ground.phase }, { on := 11, ground := Go.Ground.phase }, { on := 12, ground := (Go.Ground.textOnly Go.Departure.lateStores) }, { on := 13, ground := Go.Ground.phase }, { on := 14, ground := Go.Ground.phase }, { on := 15, ground := Go.Ground.phase }]) (gd := none) (t := 30) (x := (Go.Operand.tmp 15)) (y := (Go.Operand.tmp 104)) (v := .agg #[.slice B7 ys7.length d7, .int .i64 (cb : Int)]) HS 0 rfl (0) [.slice B7 ys7.length d7, .int .i64 (cb : Int)] (by kernel_rfl) (by kernel_rfl) (by kernel_rfl) (by kernel_rfl) (one_ (by kernel_rfl)) (Nat.le_of_ble_eq_true rfl)
        replace HK := HK.trans hk_ (fun _ h_ => .inr (Nat.le_trans hv_g45 (Nat.le_of_eq (Eq.symm h_))))
        refine t_s (n := 1) 16 rfl (by kernel_rfl) (by kernel_rfl) hrun_ HK ?_
        clear hk_ hrun_
        replace HS : St W (owns []) W48 [blk g45 [.slice B7 ys7.length d7, .int .i64 (cb : Int)] 30, blk g [.chan (some p)] 46, chn p ca (xs7.map fun n : Int => Value.int .i64 n), blk h [.chan (some q)] 46, chn q cb (ys7.map fun n : Int => Value.int .i64 n), rde A7 (ci .i64 xs7), rde B7 (ci .i64 ys7), blk g42 [.slice A7 xs7.length c7, .int .i64 (ca : Int)] 30, blk g3 [.slice Ax xs.length cx, .int .i64 (ca : Int)] 30, blk g5 [.slice By ys.length dy, .int .i64 (cb : Int)] 30] := H_
        clear H_
        refine t_q (n := 0) 17 (.bool true) rfl (by kernel_rfl) (by kernel_rfl) (fun _ _ _ h => h) (fun w' hk => (by kernel_rfl)) HK ?_
        refine t_done (by kernel_rfl) ?_
        clear HV HK
        refine x_then ?_
        refine wp_seq ?_
        refine wp_region_lit ?_
        refine ql (.agg #[.slice A7 xs7.length c7, .int .i64 (ca : Int)]) (by kernel_rfl) (R_loadN (p := ⟨g42, 0, none⟩) [.slice A7 xs7.length c7, .int .i64 (ca : Int)] (by kernel_rfl) (by kernel_rfl) (by kernel_rfl) (by kernel_rfl) (two_at (HS.cell (i := 7) (j := 0) rfl rfl) (HS.cell (i := 7) (j := 1) rfl rfl))) ?_
        refine ks (v := .agg #[.slice A7 xs7.length c7, .int .i64 (ca : Int)]) HS 8 rfl (0) [.slice A7 xs7.length c7, .int .i64 (ca : Int)] (by kernel_rfl) (by kernel_rfl) (by kernel_rfl) (by kernel_rfl) (by kernel_rfl) (one_ (by kernel_rfl)) (Nat.le_of_ble_eq_true rfl) rfl ?_
        intro W49 H_
        replace HS : St W (owns []) W49 [blk g45 [.slice B7 ys7.length d7, .int .i64 (cb : Int)] 30, blk g [.chan (some p)] 46, chn p ca (xs7.map fun n : Int => Value.int .i64 n), blk h [.chan (some q)] 46, chn q cb (ys7.map fun n : Int => Value.int .i64 n), rde A7 (ci .i64 xs7), rde B7 (ci .i64 ys7), blk g42 [.slice A7 xs7.length c7, .int .i64 (ca : Int)] 30, blk g3 [.slice A7 xs7.length c7, .int .i64 (ca : Int)] 30, blk g5 [.slice By ys.length dy, .int .i64 (cb : Int)] 30] := H_
        clear H_
        refine wpList_nil ?_
        refine x_then ?_
        refine wp_seq ?_
        refine wp_region_lit ?_
        refine ql (.agg #[.slice B7 ys7.length d7, .int .i64 (cb : Int)]) (by kernel_rfl) (R_loadN (p := ⟨g45, 0, none⟩) [.slice B7 ys7.length d7, .int .i64 (cb : Int)] (by kernel_rfl) (by kernel_rfl) (by kernel_rfl) (by kernel_rfl) (two_at (HS.cell (i := 0) (j := 0) rfl rfl) (HS.cell (i := 0) (j := 1) rfl rfl))) ?_
        refine ks (v := .agg #[.slice B7 ys7.length d7, .int .i64 (cb : Int)]) HS 9 rfl (0) [.slice B7 ys7.length d7, .int .i64 (cb : Int)] (by kernel_rfl) (by kernel_rfl) (by kernel_rfl) (by kernel_rfl) (by kernel_rfl) (one_ (by kernel_rfl)) (Nat.le_of_ble_eq_true rfl) rfl ?_
        intro W50 H_
        replace HS : St W (owns []) W50 [blk g45 [.slice B7 ys7.length d7, .int .i64 (cb : Int)] 30, blk g [.chan (some p)] 46, chn p ca (xs7.map fun n : Int => Value.int .i64 n), blk h [.chan (some q)] 46, chn q cb (ys7.map fun n : Int => Value.int .i64 n), rde A7 (ci .i64 xs7), rde B7 (ci .i64 ys7), blk g42 [.slice A7 xs7.length c7, .int .i64 (ca : Int)] 30, blk g3 [.slice A7 xs7.length c7, .int .i64 (ca : Int)] 30, blk g5 [.slice B7 ys7.length d7, .int .i64 (cb : Int)] 30] := H_
        clear H_
        refine wpList_nil ?_
        refine x_then ?_
        refine wp_seq ?_
        refine t_start HS (fun _ => False) 38 (by kernel_rfl) rfl ?_
        intro W51 H_ HD_
        clear HD_
        replace HS : St W (owns []) W51 [blk g45 [.slice B7 ys7.length d7, .int .i64 (cb : Int)] 30, blk g [.chan (some p)] 46, chn p ca (xs7.map fun n : Int => Value.int .i64 n), blk h [.chan (some q)] 46, chn q cb (ys7.map fun n : Int => Value.int .i64 n), rde A7 (ci .i64 xs7), rde B7 (ci .i64 ys7), blk g42 [.slice A7 xs7.length c7, .int .i64 (ca : Int)] 30, blk g3 [.slice A7 xs7.length c7, .int .i64 (ca : Int)] 30, blk g5 [.slice B7 ys7.length d7, .int .i64 (cb : Int)] 30] := H_
        clear H_
        have HV := HS
        have HK := Kpt.refl (fun _ => False) W51
        refine t_q (n := 37) 0 (.bool true) rfl (by kernel_rfl) (by kernel_rfl) (fun _ _ _ h => h) (fun w' hk => (by kernel_rfl)) HK ?_
        refine t_q (n := 36) 1 (.bool false) rfl (by kernel_rfl) (by kernel_rfl) (fun _ _ _ h => h) (fun w' hk => (by kernel_rfl)) HK ?_
        refine t_q (n := 35) 2 (.bool false) rfl (by kernel_rfl) (by kernel_rfl) (fun _ _ _ h => h) (fun w' hk => (by kernel_rfl)) HK ?_
        refine t_q (n := 34) 3 (.pointer (some ⟨g, 0, none⟩)) rfl (by kernel_rfl) (by kernel_rfl) (fun _ _ _ h => h) (fun w' hk => (by kernel_rfl)) HK ?_
        refine t_q (n := 33) 5 (.pointer (some ⟨g3, 0, none⟩)) rfl (by kernel_rfl) (by kernel_rfl) (fun _ _ _ h => h) (fun w' hk => (by kernel_rfl)) HK ?_
        refine t_q (n := 32) 6 (.slice A7 xs7.length c7) rfl (by kernel_rfl) (by kernel_rfl) (fun _ _ _ h => h) (fun w' hk => (R_load (p := ⟨g3, 0, none⟩) (by kernel_rfl) (by kernel_rfl) (by kernel_rfl) (hk.cell (HV.cell (i := 8) (j := 0) rfl rfl)))) HK ?_
        refine t_q (n := 31) 7 (.int .i64 (xs7.length : Int)) rfl (by kernel_rfl) (by kernel_rfl) (fun _ _ _ h => h) (fun w' hk => (by kernel_rfl)) HK ?_
        refine t_c (n := 30) 4 (f := 7) (args := #[.pointer (some ⟨g, 0, none⟩)]) rfl (by kernel_rfl) (by kernel_rfl) (R_call #[.pointer (some ⟨g, 0, none⟩)] Try.func7 (by kernel_rfl) (by kernel_rfl) (by kernel_rfl)) ?_
        refine (plen g p ca xs7 _ (HS.cell (i := 1) (j := 0) rfl rfl) (HS.get (i := 2) rfl) (by omega) (by omega)).mono ?_
        rintro e W52 ⟨rfl, H_⟩
        refine ⟨_, rfl, HK.tr H_.kept.nil, ?_⟩
        replace HK := HK.tr H_.kept.nil
        replace HS : St W (owns []) W52 [blk g45 [.slice B7 ys7.length d7, .int .i64 (cb : Int)] 30, blk g [.chan (some p)] 46, chn p ca (xs7.map fun n : Int => Value.int .i64 n), blk h [.chan (some q)] 46, chn q cb (ys7.map fun n : Int => Value.int .i64 n), rde A7 (ci .i64 xs7), rde B7 (ci .i64 ys7), blk g42 [.slice A7 xs7.length c7, .int .i64 (ca : Int)] 30, blk g3 [.slice A7 xs7.length c7, .int .i64 (ca : Int)] 30, blk g5 [.slice B7 ys7.length d7, .int .i64 (cb : Int)] 30] := HS.join (F := []) (G := []) H_
        clear H_
        refine t_q (n := 29) 8 (.bool false) rfl (by kernel_rfl) (by kernel_rfl) (fun _ _ _ h => h) (fun w' hk => (R_beq (b := ((xs7.length : Int) != (xs7.length : Int))) (by kernel_rfl) (bne_f (by omega)))) HK ?_
        refine t_q (n := 28) 9 (.bool false) rfl (by kernel_rfl) (by kernel_rfl) (fun _ _ _ h => h) (fun w' hk => (by kernel_rfl)) HK ?_
        refine t_q (n := 27) 10 (.bool false) rfl (by kernel_rfl) (by kernel_rfl) (fun _ _ _ h => h) (fun w' hk => (by kernel_rfl)) HK ?_
        refine t_q (n := 26) 11 (.pointer (some ⟨h, 0, none⟩)) rfl (by kernel_rfl) (by kernel_rfl) (fun _ _ _ h => h) (fun w' hk => (by kernel_rfl)) HK ?_
        refine t_q (n := 25) 13 (.pointer (some ⟨g5, 0, none⟩)) rfl (by kernel_rfl) (by kernel_rfl) (fun _ _ _ h => h) (fun w' hk => (by kernel_rfl)) HK ?_
        refine t_q (n := 24) 14 (.slice B7 ys7.length d7) rfl (by kernel_rfl) (by kernel_rfl) (fun _ _ _ h => h) (fun w' hk => (R_load (p := ⟨g5, 0, none⟩) (by kernel_rfl) (by kernel_rfl) (by kernel_rfl) (hk.cell (HV.cell (i := 9) (j := 0) rfl rfl)))) HK ?_
        refine t_q (n := 23) 15 (.int .i64 (ys7.length : Int)) rfl (by kernel_rfl) (by kernel_rfl) (fun _ _ _ h => h) (fun w' hk => (by kernel_rfl)) HK ?_
        refine t_c (n := 22) 12 (f := 7) (args := #[.pointer (some ⟨h, 0, none⟩)]) rfl (by kernel_rfl) (by kernel_rfl) (R_call #[.pointer (some ⟨h, 0, none⟩)] Try.func7 (by kernel_rfl) (by kernel_rfl) (by kernel_rfl)) ?_
        refine (plen h q cb ys7 _ (HS.cell (i := 3) (j := 0) rfl rfl) (HS.get (i := 4) rfl) (by omega) (by omega)).mono ?_
        rintro e W53 ⟨rfl, H_⟩
        refine ⟨_, rfl, HK.tr H_.kept.nil, ?_⟩
        replace HK := HK.tr H_.kept.nil
        replace HS : St W (owns []) W53 [blk g45 [.slice B7 ys7.length d7, .int .i64 (cb : Int)] 30, blk g [.chan (some p)] 46, chn p ca (xs7.map fun n : Int => Value.int .i64 n), blk h [.chan (some q)] 46, chn q cb (ys7.map fun n : Int => Value.int .i64 n), rde A7 (ci .i64 xs7), rde B7 (ci .i64 ys7), blk g42 [.slice A7 xs7.length c7, .int .i64 (ca : Int)] 30, blk g3 [.slice A7 xs7.length c7, .int .i64 (ca : Int)] 30, blk g5 [.slice B7 ys7.length d7, .int .i64 (cb : Int)] 30] := HS.join (F := []) (G := []) H_
        clear H_
        refine t_q (n := 21) 16 (.bool false) rfl (by kernel_rfl) (by kernel_rfl) (fun _ _ _ h => h) (fun w' hk => (R_beq (b := ((ys7.length : Int) != (ys7.length : Int))) (by kernel_rfl) (bne_f (by omega)))) HK ?_
        refine t_q (n := 20) 17 (.bool false) rfl (by kernel_rfl) (by kernel_rfl) (fun _ _ _ h => h) (fun w' hk => (by kernel_rfl)) HK ?_
        refine t_q (n := 19) 18 (.bool false) rfl (by kernel_rfl) (by kernel_rfl) (fun _ _ _ h => h) (fun w' hk => (by kernel_rfl)) HK ?_
        refine t_q (n := 18) 19 (.pointer (some ⟨g, 0, none⟩)) rfl (by kernel_rfl) (by kernel_rfl) (fun _ _ _ h => h) (fun w' hk => (by kernel_rfl)) HK ?_
        refine t_q (n := 17) 21 (.int .i64 (ca : Int)) rfl (by kernel_rfl) (by kernel_rfl) (fun _ _ _ h => h) (fun w' hk => (by kernel_rfl)) HK ?_
        refine t_q (n := 16) 22 (.pointer (some ⟨g3, 0, none⟩)) rfl (by kernel_rfl) (by kernel_rfl) (fun _ _ _ h => h) (fun w' hk => (by kernel_rfl)) HK ?_
        refine t_q (n := 15) 23 (.slice A7 xs7.length c7) rfl (by kernel_rfl) (by kernel_rfl) (fun _ _ _ h => h) (fun w' hk => (R_load (p := ⟨g3, 0, none⟩) (by kernel_rfl) (by kernel_rfl) (by kernel_rfl) (hk.cell (HV.cell (i := 8) (j := 0) rfl rfl)))) HK ?_
        refine t_q (n := 14) 24 (.int .i64 (xs7.length : Int)) rfl (by kernel_rfl) (by kernel_rfl) (fun _ _ _ h => h) (fun w' hk => (by kernel_rfl)) HK ?_
        refine t_q (n := 13) 25 (.int .i64 ((ca : Int) - (xs7.length : Int))) rfl (by kernel_rfl) (by kernel_rfl) (fun _ _ _ h => h) (fun w' hk => (R_int (by kernel_rfl) (w64 (by omega)))) HK ?_
        refine t_c (n := 12) 20 (f := 8) (args := #[.pointer (some ⟨g, 0, none⟩)]) rfl (by kernel_rfl) (by kernel_rfl) (R_call #[.pointer (some ⟨g, 0, none⟩)] Try.func8 (by kernel_rfl) (by kernel_rfl) (by kernel_rfl)) ?_
        refine (proom g p ca xs7 _ (HS.cell (i := 1) (j := 0) rfl rfl) (HS.get (i := 2) rfl) (by omega) (by omega)).mono ?_
        rintro e W54 ⟨rfl, H_⟩
        refine ⟨_, rfl, HK.tr H_.kept.nil, ?_⟩
        replace HK := HK.tr H_.kept.nil
        replace HS : St W (owns []) W54 [blk g45 [.slice B7 ys7.length d7, .int .i64 (cb : Int)] 30, blk g [.chan (some p)] 46, chn p ca (xs7.map fun n : Int => Value.int .i64 n), blk h [.chan (some q)] 46, chn q cb (ys7.map fun n : Int => Value.int .i64 n), rde A7 (ci .i64 xs7), rde B7 (ci .i64 ys7), blk g42 [.slice A7 xs7.length c7, .int .i64 (ca : Int)] 30, blk g3 [.slice A7 xs7.length c7, .int .i64 (ca : Int)] 30, blk g5 [.slice B7 ys7.length d7, .int .i64 (cb : Int)] 30] := HS.join (F := []) (G := []) H_
        clear H_
        refine t_q (n := 11) 26 (.bool false) rfl (by kernel_rfl) (by kernel_rfl) (fun _ _ _ h => h) (fun w' hk => (R_beq (b := ((ca : Int) - (xs7.length : Int) != (ca : Int) - (xs7.length : Int))) (by kernel_rfl) (bne_f (by omega)))) HK ?_
        refine t_q (n := 10) 27 (.bool false) rfl (by kernel_rfl) (by kernel_rfl) (fun _ _ _ h => h) (fun w' hk => (by kernel_rfl)) HK ?_
        refine t_q (n := 9) 28 (.bool false) rfl (by kernel_rfl) (by kernel_rfl) (fun _ _ _ h => h) (fun w' hk => (by kernel_rfl)) HK ?_
        refine t_q (n := 8) 29 (.pointer (some ⟨h, 0, none⟩)) rfl (by kernel_rfl) (by kernel_rfl) (fun _ _ _ h => h) (fun w' hk => (by kernel_rfl)) HK ?_
        refine t_q (n := 7) 31 (.int .i64 (cb : Int)) rfl (by kernel_rfl) (by kernel_rfl) (fun _ _ _ h => h) (fun w' hk => (by kernel_rfl)) HK ?_
        refine t_q (n := 6) 32 (.pointer (some ⟨g5, 0, none⟩)) rfl (by kernel_rfl) (by kernel_rfl) (fun _ _ _ h => h) (fun w' hk => (by kernel_rfl)) HK ?_
        refine t_q (n := 5) 33 (.slice B7 ys7.length d7) rfl (by kernel_rfl) (by kernel_rfl) (fun _ _ _ h => h) (fun w' hk => (R_load (p := ⟨g5, 0, none⟩) (by kernel_rfl) (by kernel_rfl) (by kernel_rfl) (hk.cell (HV.cell (i := 9) (j := 0) rfl rfl)))) HK ?_
        refine t_q (n := 4) 34 (.int .i64 (ys7.length : Int)) rfl (by kernel_rfl) (by kernel_rfl) (fun _ _ _ h => h) (fun w' hk => (by kernel_rfl)) HK ?_
        refine t_q (n := 3) 35 (.int .i64 ((cb : Int) - (ys7.length : Int))) rfl (by kernel_rfl) (by kernel_rfl) (fun _ _ _ h => h) (fun w' hk => (R_int (by kernel_rfl) (w64 (by omega)))) HK ?_
        refine t_c (n := 2) 30 (f := 8) (args := #[.pointer (some ⟨h, 0, none⟩)]) rfl (by kernel_rfl) (by kernel_rfl) (R_call #[.pointer (some ⟨h, 0, none⟩)] Try.func8 (by kernel_rfl) (by kernel_rfl) (by kernel_rfl)) ?_
        refine (proom h q cb ys7 _ (HS.cell (i := 3) (j := 0) rfl rfl) (HS.get (i := 4) rfl) (by omega) (by omega)).mono ?_
        rintro e W55 ⟨rfl, H_⟩
        refine ⟨_, rfl, HK.tr H_.kept.nil, ?_⟩
        replace HK := HK.tr H_.kept.nil
        replace HS : St W (owns []) W55 [blk g45 [.slice B7 ys7.length d7, .int .i64 (cb : Int)] 30, blk g [.chan (some p)] 46, chn p ca (xs7.map fun n : Int => Value.int .i64 n), blk h [.chan (some q)] 46, chn q cb (ys7.map fun n : Int => Value.int .i64 n), rde A7 (ci .i64 xs7), rde B7 (ci .i64 ys7), blk g42 [.slice A7 xs7.length c7, .int .i64 (ca : Int)] 30, blk g3 [.slice A7 xs7.length c7, .int .i64 (ca : Int)] 30, blk g5 [.slice B7 ys7.length d7, .int .i64 (cb : Int)] 30] := HS.join (F := []) (G := []) H_
        clear H_
        refine t_q (n := 1) 36 (.bool false) rfl (by kernel_rfl) (by kernel_rfl) (fun _ _ _ h => h) (fun w' hk => (R_beq (b := ((cb : Int) - (ys7.length : Int) != (cb : Int) - (ys7.length : Int))) (by kernel_rfl) (bne_f (by omega)))) HK ?_
        refine t_q (n := 0) 37 (.bool false) rfl (by kernel_rfl) (by kernel_rfl) (fun _ _ _ h => h) (fun w' hk => (by kernel_rfl)) HK ?_
        refine t_done (by kernel_rfl) ?_
        clear HV HK
        refine x_then ?_
        refine wp_cond_false (by kernel_rfl) ?_
        refine wp_skip ?_
        refine x_inb ?_
        refine x_then ?_
        refine wp_region_lit ?_
        refine ql (.int .i64 i) (by kernel_rfl) (by kernel_rfl) ?_
        refine ql (.int .i64 (i + 1)) (by kernel_rfl) (R_int (by kernel_rfl) (w64 (by omega))) ?_
        refine ql (.int .i64 (i + 1)) (by kernel_rfl) (by kernel_rfl) ?_
        refine wpList_nil ?_
        replace HS : St W (owns []) W55 [blk g [.chan (some p)] 46, chn p ca (xs7.map fun n : Int => Value.int .i64 n), blk h [.chan (some q)] 46, chn q cb (ys7.map fun n : Int => Value.int .i64 n), rde A7 (ci .i64 xs7), rde B7 (ci .i64 ys7), blk g3 [.slice A7 xs7.length c7, .int .i64 (ca : Int)] 30, blk g5 [.slice B7 ys7.length d7, .int .i64 (cb : Int)] 30] := St.tail (F := [blk g45 [.slice B7 ys7.length d7, .int .i64 (cb : Int)] 30, blk g42 [.slice A7 xs7.length c7, .int .i64 (ca : Int)] 30]) (HS.perm (perm_ [0, 7, 1, 2, 3, 4, 5, 6, 8, 9] (by kernel_rfl) rfl))
        refine x_then ?_
        exact ⟨acts.length - (i + 1).toNat, by omega, (fun k_ : Nat => List.getD ((.int .i64 (ca : Int)) :: (.int .i64 (cb : Int)) :: (.slice (some ad14) acts.length e) :: undef :: undef :: undef :: ((J9 6)) :: (.pointer (some ⟨g, 0, none⟩)) :: (.int .i64 0) :: (.pointer (some ⟨h, 0, none⟩)) :: (.int .i64 0) :: (.pointer (some ⟨g3, 0, none⟩)) :: (.pointer (some ⟨g5, 0, none⟩)) :: (.int .i64 (i + 1)) :: (.pointer (some ⟨g42, 0, none⟩)) :: (.pointer (some ⟨g45, 0, none⟩)) :: (.bool true) :: (.int .i64 (ca : Int)) :: (.bool false) :: (.bool false) :: undef :: undef :: (.bool false) :: (.bool false) :: (.int .i64 (cb : Int)) :: (.bool false) :: (.bool false) :: (.bool false) :: (.int .i64 (cb : Int)) :: (.bool false) :: (.bool false) :: (.bool false) :: (.slice (some ad14) acts.length e) :: (.int .i64 (acts.length : Int)) :: (.bool false) :: (.bool false) :: undef :: (.tuple #[.pointer (some ⟨g, 0, none⟩), .int .i64 0]) :: (.int .i64 (ca : Int)) :: (.tuple #[.pointer (some ⟨g, 0, none⟩), .int .i64 0]) :: (.pointer (some ⟨g, 0, none⟩)) :: (.int .i64 0) :: (.tuple #[.pointer (some ⟨h, 0, none⟩), .int .i64 0]) :: (.int .i64 (cb : Int)) :: (.tuple #[.pointer (some ⟨h, 0, none⟩), .int .i64 0]) :: (.pointer (some ⟨h, 0, none⟩)) :: (.int .i64 0) :: (.int .i64 (ca : Int)) :: (.bool false) :: undef :: undef :: undef :: undef :: undef :: undef :: undef :: undef :: undef :: (.int .i64 (ca : Int)) :: (.bool false) :: undef :: undef :: undef :: undef :: undef :: undef :: undef :: undef :: undef :: (.pointer (some ⟨g, 0, none⟩)) :: (.bool false) :: (.bool false) :: (.pointer (some ⟨h, 0, none⟩)) :: (.bool false) :: (.bool false) :: (.bool false) :: (.int .i64 0) :: (.bool false) :: (.bool false) :: (.bool false) :: (.int .i64 0) :: (.bool false) :: (.bool false) :: (.int .i64 (ca : Int)) :: (.agg #[.slice none 0 0, .int .i64 (ca : Int)]) :: (.int .i64 (cb : Int)) :: (.agg #[.slice none 0 0, .int .i64 (cb : Int)]) :: (.int .i64 i) :: (.slice (some ad14) acts.length e) :: (.int .i64 (acts.length : Int)) :: (.bool true) :: (.int .i64 i) :: (.int .i64 (i + 1)) :: (.tuple #[.agg #[.slice A7 xs7.length c7, .int .i64 (ca : Int)], .agg #[.slice B7 ys7.length d7, .int .i64 (cb : Int)], .bool true]) :: (.pointer (some ⟨g, 0, none⟩)) :: (.pointer (some ⟨h, 0, none⟩)) :: (.agg #[.slice Ax xs.length cx, .int .i64 (ca : Int)]) :: (.agg #[.slice By ys.length dy, .int .i64 (cb : Int)]) :: (.slice (some ad14) acts.length e) :: (.int .i64 i) :: (.pointer (some (ad14.add (i.toNat * 2)))) :: (.agg #[.int .i64 ((gx acts i).1), .int .i64 ((gx acts i).2)]) :: (.tuple #[.agg #[.slice A7 xs7.length c7, .int .i64 (ca : Int)], .agg #[.slice B7 ys7.length d7, .int .i64 (cb : Int)], .bool true]) :: (.agg #[.slice A7 xs7.length c7, .int .i64 (ca : Int)]) :: (.agg #[.slice B7 ys7.length d7, .int .i64 (cb : Int)]) :: (.bool true) :: (.agg #[.slice A7 xs7.length c7, .int .i64 (ca : Int)]) :: (.agg #[.slice B7 ys7.length d7, .int .i64 (cb : Int)]) :: (.bool true) :: (.bool false) :: (.bool false) :: (.pointer (some ⟨g, 0, none⟩)) :: (.int .i64 (xs7.length : Int)) :: (.pointer (some ⟨g3, 0, none⟩)) :: (.slice A7 xs7.length c7) :: (.int .i64 (xs7.length : Int)) :: (.bool false) :: (.bool false) :: (.bool false) :: (.pointer (some ⟨h, 0, none⟩)) :: (.int .i64 (ys7.length : Int)) :: (.pointer (some ⟨g5, 0, none⟩)) :: (.slice B7 ys7.length d7) :: (.int .i64 (ys7.length : Int)) :: (.bool false) :: (.bool false) :: (.bool false) :: (.pointer (some ⟨g, 0, none⟩)) :: (.int .i64 ((ca : Int) - (xs7.length : Int))) :: (.int .i64 (ca : Int)) :: (.pointer (some ⟨g3, 0, none⟩)) :: (.slice A7 xs7.length c7) :: (.int .i64 (xs7.length : Int)) :: (.int .i64 ((ca : Int) - (xs7.length : Int))) :: (.bool false) :: (.bool false) :: (.bool false) :: (.pointer (some ⟨h, 0, none⟩)) :: (.int .i64 ((cb : Int) - (ys7.length : Int))) :: (.int .i64 (cb : Int)) :: (.pointer (some ⟨g5, 0, none⟩)) :: (.slice B7 ys7.length d7) :: (.int .i64 (ys7.length : Int)) :: (.int .i64 ((cb : Int) - (ys7.length : Int))) :: (.bool false) :: (.bool false) :: undef :: undef :: undef :: undef :: undef :: undef :: undef :: undef :: undef :: undef :: undef :: undef :: undef :: undef :: undef :: []) k_ undef), i + 1, xs7, ys7, A7, c7, B7, d7, congrArg Fr (by kernel_rfl), rfl, by omega, by omega, hx7, hy7, hxc7, hyd7, HS⟩
      · skip
        obtain ⟨g56, W57, hg_, hw_, H_, hk_⟩ := ex_blk HS [.slice none 0 0, .int .i64 0] 30
        have hv_g56 := Nat.le_trans HK.size (Nat.le_of_eq (Eq.symm hg_))
        refine t_e2 (n := 8) 14 (.pointer (some ⟨g56, 0, none⟩)) rfl (by kernel_rfl) (by subst hg_; subst hw_; kernel_rfl) (HK.tr hk_) ?_
        replace HK := HK.tr hk_
        clear hk_
        clear hg_ hw_
        replace HS : St W (owns []) W57 [blk g56 [.slice none 0 0, .int .i64 0] 30, blk g42 [.slice none 0 0, .int .i64 0] 30, blk g [.chan (some p)] 46, chn p ca (xs.map fun n : Int => Value.int .i64 n), blk h [.chan (some q)] 46, chn q cb (ys.map fun n : Int => Value.int .i64 n), rde Ax (ci .i64 xs), rde By (ci .i64 ys), blk g3 [.slice Ax xs.length cx, .int .i64 (ca : Int)] 30, blk g5 [.slice By ys.length dy, .int .i64 (cb : Int)] 30] := H_
        clear H_
        refine t_c (n := 7) 8 (f := 6) (args := #[.pointer (some ⟨g, 0, none⟩), .pointer (some ⟨h, 0, none⟩), .agg #[.slice Ax xs.length cx, .int .i64 (ca : Int)], .agg #[.slice By ys.length dy, .int .i64 (cb : Int)], .agg #[.int .i64 ((gx acts i).1), .int .i64 ((gx acts i).2)]]) rfl (by kernel_rfl) (by kernel_rfl) (R_call #[.pointer (some ⟨g, 0, none⟩), .pointer (some ⟨h, 0, none⟩), .agg #[.slice Ax xs.length cx, .int .i64 (ca : Int)], .agg #[.slice By ys.length dy, .int .i64 (cb : Int)], .agg #[.int .i64 ((gx acts i).1), .int .i64 ((gx acts i).2)]] Try.func6 (by kernel_rfl) (by kernel_rfl) (by kernel_rfl)) ?_
        replace HS : St W (owns []) W57 [blk g [.chan (some p)] 46, chn p ca (xs.map fun n : Int => Value.int .i64 n), blk h [.chan (some q)] 46, chn q cb (ys.map fun n : Int => Value.int .i64 n), rde Ax (ci .i64 xs), rde By (ci .i64 ys), blk g56 [.slice none 0 0, .int .i64 0] 30, blk g42 [.slice none 0 0, .int .i64 0] 30, blk g3 [.slice Ax xs.length cx, .int .i64 (ca : Int)] 30, blk g5 [.slice By ys.length dy, .int .i64 (cb : Int)] 30] := HS.perm (perm_ [2, 3, 4, 5, 6, 7, 0, 1, 8, 9] (by kernel_rfl) rfl)
        refine (does_t g p ca h q cb Ax cx xs By dy ys ((gx acts i).1) ((gx acts i).2) _ _ (St.focus (F := [blk g [.chan (some p)] 46, chn p ca (xs.map fun n : Int => Value.int .i64 n), blk h [.chan (some q)] 46, chn q cb (ys.map fun n : Int => Value.int .i64 n), rde Ax (ci .i64 xs), rde By (ci .i64 ys)]) HS) (by omega) (by omega) hx hy hxc hyd).mono ?_
        rintro e W58 ⟨xs7, ys7, A7, c7, B7, d7, rfl, H_, hx7, hy7, hxc7, hyd7⟩
        have hkf_ : ∀ k_, owns [blk g [.chan (some p)] 46, chn p ca (xs.map fun n : Int => Value.int .i64 n), blk h [.chan (some q)] 46, chn q cb (ys.map fun n : Int => Value.int .i64 n), rde Ax (ci .i64 xs), rde By (ci .i64 ys)] k_ → (blk g [.chan (some p)] 46).own k_ ∨ (chn p ca (xs.map fun n : Int => Value.int .i64 n)).own k_ ∨ (blk h [.chan (some q)] 46).own k_ ∨ (chn q cb (ys.map fun n : Int => Value.int .i64 n)).own k_ ∨ (rde Ax (ci .i64 xs)).own k_ ∨ (rde By (ci .i64 ys)).own k_ := by
          intro k_ h_; obtain ⟨e_, he_, ho_⟩ := h_; simp only [List.mem_cons, List.not_mem_nil, or_false] at he_; rcases he_ with rfl | rfl | rfl | rfl | rfl | rfl <;> first | exact (.inl ho_) | exact (.inr (.inl ho_)) | exact (.inr (.inr (.inl ho_))) | exact (.inr (.inr (.inr (.inl ho_)))) | exact (.inr (.inr (.inr (.inr (.inl ho_))))) | exact (.inr (.inr (.inr (.inr (.inr ho_)))))
        refine ⟨_, rfl, HK.trans H_.kept (fun _ h_ => .inl (hkf_ _ h_)), ?_⟩
        replace HK := HK.trans H_.kept (fun _ h_ => .inl (hkf_ _ h_))
        replace HS : St W (owns []) W58 [blk g [.chan (some p)] 46, chn p ca (xs7.map fun n : Int => Value.int .i64 n), blk h [.chan (some q)] 46, chn q cb (ys7.map fun n : Int => Value.int .i64 n), rde A7 (ci .i64 xs7), rde B7 (ci .i64 ys7), blk g56 [.slice none 0 0, .int .i64 0] 30, blk g42 [.slice none 0 0, .int .i64 0] 30, blk g3 [.slice Ax xs.length cx, .int .i64 (ca : Int)] 30, blk g5 [.slice By ys.length dy, .int .i64 (cb : Int)] 30] := HS.join (F := [blk g [.chan (some p)] 46, chn p ca (xs.map fun n : Int => Value.int .i64 n), blk h [.chan (some q)] 46, chn q cb (ys.map fun n : Int => Value.int .i64 n), rde Ax (ci .i64 xs), rde By (ci .i64 ys)]) (G := [blk g [.chan (some p)] 46, chn p ca (xs7.map fun n : Int => Value.int .i64 n), blk h [.chan (some q)] 46, chn q cb (ys7.map fun n : Int => Value.int .i64 n), rde A7 (ci .i64 xs7), rde B7 (ci .i64 ys7)]) H_
        clear H_
        refine t_q (n := 6) 9 (.tuple #[.agg #[.slice A7 xs7.length c7, .int .i64 (ca : Int)], .agg #[.slice B7 ys7.length d7, .int .i64 (cb : Int)], .bool true]) rfl (by kernel_rfl) (by kernel_rfl) (fun _ _ _ h => h) (fun w' hk => (by kernel_rfl)) HK ?_
        refine t_q (n := 5) 10 (.agg #[.slice A7 xs7.length c7, .int .i64 (ca : Int)]) rfl (by kernel_rfl) (by kernel_rfl) (fun _ _ _ h => h) (fun w' hk => (by kernel_rfl)) HK ?_
        refine t_q (n := 4) 11 (.agg #[.slice B7 ys7.length d7, .int .i64 (cb : Int)]) rfl (by kernel_rfl) (by kernel_rfl) (fun _ _ _ h => h) (fun w' hk => (by kernel_rfl)) HK ?_
        refine t_q (n := 3) 12 (.bool true) rfl (by kernel_rfl) (by kernel_rfl) (fun _ _ _ h => h) (fun w' hk => (by kernel_rfl)) HK ?_
        obtain ⟨W59, hrun_, H_, hk_⟩ := ex_ks (P := Try.prog) (ty := 0) (ps := "law.go:63") (af := #[{ on := 13, ground := Go.Ground.data }, { on := 10, ground := Go.Ground.data }, { on := 8, ground := Go.Ground.chain }, { on := 0, ground := Go.Ground.phase }, { on := 1, ground := Go.Ground.phase }, { on := 2, ground := Go.Ground.phase }, { on := 3, ground := Go.Ground.phase }, { on := 4, ground := Go.Ground.phase }, { on := 5, ground := Go.Ground.phase }, { on := 6, ground := Go.Ground.phase }, { on := 7, ground := Go.Ground.phase }, { on := 8, ground := Go.Ground.phase }, { on := 9, ground := Go.Ground.phase }, { on := 10, ground := Go.Ground.phase }, { on := 11, ground := (Go.Ground.textOnly Go.Departure.lateStores) }, { on := 12, ground := (Go.Ground.textOnly Go.Departure.lateStores) }, { on := 13, ground := Go.Ground.phase }, { on := 14, ground := Go.Ground.phase }]) (gd := none) (t := 30) (x := (Go.Operand.tmp 14)) (y := (Go.Operand.tmp 103)) (v := .agg #[.slice A7 xs7.length c7, .int .i64 (ca : Int)]) HS 7 rfl (0) [.slice A7 xs7.length c7, .int .i64 (ca : Int)] (by kernel_rfl) (by kernel_rfl) (by kernel_rfl) (by kernel_rfl) (one_ (by kernel_rfl)) (Nat.le_of_ble_eq_true rfl)
        replace HK := HK.trans hk_ (fun _ h_ => .inr (Nat.le_trans hv_g42 (Nat.le_of_eq (Eq.symm h_))))
        refine t_s (n := 2) 15 rfl (by kernel_rfl) (by kernel_rfl) hrun_ HK ?_
        clear hk_ hrun_
        replace HS : St W (owns []) W59 [blk g [.chan (some p)] 46, chn p ca (xs7.map fun n : Int => Value.int .i64 n), blk h [.chan (some q)] 46, chn q cb (ys7.map fun n : Int => Value.int .i64 n), rde A7 (ci .i64 xs7), rde B7 (ci .i64 ys7), blk g56 [.slice none 0 0, .int .i64 0] 30, blk g42 [.slice A7 xs7.length c7, .int .i64 (ca : Int)] 30, blk g3 [.slice Ax xs.length cx, .int .i64 (ca : Int)] 30, blk g5 [.slice By ys.length dy, .int .i64 (cb : Int)] 30] := H_
        clear H_
        obtain ⟨W60, hrun_, H_, hk_⟩ := ex_ks (P := Try.prog) (ty := 0) (ps := "law.go:63") (af := #[{ on := 14, ground := Go.Ground.data }, { on := 11, ground := Go.Ground.data }, { on := 15, ground := Go.Ground.chain }, { on := 0, ground := Go.Ground.phase }, { on := 1, ground := Go.Ground.phase }, { on := 2, ground := Go.Ground.phase }, { on := 3, ground := Go.Ground.phase }, { on := 4, ground := Go.Ground.phase }, { on := 5, ground := Go.Ground.phase }, { on := 6, ground := Go.Ground.phase }, { on := 7, ground := Go.Ground.phase }, { on := 8, ground := Go.Ground.phase }, { on := 9, ground := Go.Ground.phase }, { on := 10, ground := Go.Ground.phase }, { on := 11, ground := Go.Ground.phase }, { on := 12, ground := (Go.Ground.textOnly Go.Departure.lateStores) }, { on := 13, ground := Go.Ground.phase }, { on := 14, ground := Go.Ground.phase }, { on := 15, ground := Go.Ground.phase }]) (gd := none) (t := 30) (x := (Go.Operand.tmp 15)) (y := (Go.Operand.tmp 104)) (v := .agg #[.slice B7 ys7.length d7, .int .i64 (cb : Int)]) HS 6 rfl (0) [.slice B7 ys7.length d7, .int .i64 (cb : Int)] (by kernel_rfl) (by kernel_rfl) (by kernel_rfl) (by kernel_rfl) (one_ (by kernel_rfl)) (Nat.le_of_ble_eq_true rfl)
        replace HK := HK.trans hk_ (fun _ h_ => .inr (Nat.le_trans hv_g56 (Nat.le_of_eq (Eq.symm h_))))
        refine t_s (n := 1) 16 rfl (by kernel_rfl) (by kernel_rfl) hrun_ HK ?_
        clear hk_ hrun_
        replace HS : St W (owns []) W60 [blk g [.chan (some p)] 46, chn p ca (xs7.map fun n : Int => Value.int .i64 n), blk h [.chan (some q)] 46, chn q cb (ys7.map fun n : Int => Value.int .i64 n), rde A7 (ci .i64 xs7), rde B7 (ci .i64 ys7), blk g56 [.slice B7 ys7.length d7, .int .i64 (cb : Int)] 30, blk g42 [.slice A7 xs7.length c7, .int .i64 (ca : Int)] 30, blk g3 [.slice Ax xs.length cx, .int .i64 (ca : Int)] 30, blk g5 [.slice By ys.length dy, .int .i64 (cb : Int)] 30] := H_
        clear H_
        refine t_q (n := 0) 17 (.bool true) rfl (by kernel_rfl) (by kernel_rfl) (fun _ _ _ h => h) (fun w' hk => (by kernel_rfl)) HK ?_
        refine t_done (by kernel_rfl) ?_
        clear HV HK
        refine x_then ?_
        refine wp_seq ?_
        refine wp_region_lit ?_
        refine ql (.agg #[.slice A7 xs7.length c7, .int .i64 (ca : Int)]) (by kernel_rfl) (R_loadN (p := ⟨g42, 0, none⟩) [.slice A7 xs7.length c7, .int .i64 (ca : Int)] (by kernel_rfl) (by kernel_rfl) (by kernel_rfl) (by kernel_rfl) (two_at (HS.cell (i := 7) (j := 0) rfl rfl) (HS.cell (i := 7) (j := 1) rfl rfl))) ?_
        refine ks (v := .agg #[.slice A7 xs7.length c7, .int .i64 (ca : Int)]) HS 8 rfl (0) [.slice A7 xs7.length c7, .int .i64 (ca : Int)] (by kernel_rfl) (by kernel_rfl) (by kernel_rfl) (by kernel_rfl) (by kernel_rfl) (one_ (by kernel_rfl)) (Nat.le_of_ble_eq_true rfl) rfl ?_
        intro W61 H_
        replace HS : St W (owns []) W61 [blk g [.chan (some p)] 46, chn p ca (xs7.map fun n : Int => Value.int .i64 n), blk h [.chan (some q)] 46, chn q cb (ys7.map fun n : Int => Value.int .i64 n), rde A7 (ci .i64 xs7), rde B7 (ci .i64 ys7), blk g56 [.slice B7 ys7.length d7, .int .i64 (cb : Int)] 30, blk g42 [.slice A7 xs7.length c7, .int .i64 (ca : Int)] 30, blk g3 [.slice A7 xs7.length c7, .int .i64 (ca : Int)] 30, blk g5 [.slice By ys.length dy, .int .i64 (cb : Int)] 30] := H_
        clear H_
        refine wpList_nil ?_
        refine x_then ?_
        refine wp_seq ?_
        refine wp_region_lit ?_
        refine ql (.agg #[.slice B7 ys7.length d7, .int .i64 (cb : Int)]) (by kernel_rfl) (R_loadN (p := ⟨g56, 0, none⟩) [.slice B7 ys7.length d7, .int .i64 (cb : Int)] (by kernel_rfl) (by kernel_rfl) (by kernel_rfl) (by kernel_rfl) (two_at (HS.cell (i := 6) (j := 0) rfl rfl) (HS.cell (i := 6) (j := 1) rfl rfl))) ?_
        refine ks (v := .agg #[.slice B7 ys7.length d7, .int .i64 (cb : Int)]) HS 9 rfl (0) [.slice B7 ys7.length d7, .int .i64 (cb : Int)] (by kernel_rfl) (by kernel_rfl) (by kernel_rfl) (by kernel_rfl) (by kernel_rfl) (one_ (by kernel_rfl)) (Nat.le_of_ble_eq_true rfl) rfl ?_
        intro W62 H_
        replace HS : St W (owns []) W62 [blk g [.chan (some p)] 46, chn p ca (xs7.map fun n : Int => Value.int .i64 n), blk h [.chan (some q)] 46, chn q cb (ys7.map fun n : Int => Value.int .i64 n), rde A7 (ci .i64 xs7), rde B7 (ci .i64 ys7), blk g56 [.slice B7 ys7.length d7, .int .i64 (cb : Int)] 30, blk g42 [.slice A7 xs7.length c7, .int .i64 (ca : Int)] 30, blk g3 [.slice A7 xs7.length c7, .int .i64 (ca : Int)] 30, blk g5 [.slice B7 ys7.length d7, .int .i64 (cb : Int)] 30] := H_
        clear H_
        refine wpList_nil ?_
        refine x_then ?_
        refine wp_seq ?_
        refine t_start HS (fun _ => False) 38 (by kernel_rfl) rfl ?_
        intro W63 H_ HD_
        clear HD_
        replace HS : St W (owns []) W63 [blk g [.chan (some p)] 46, chn p ca (xs7.map fun n : Int => Value.int .i64 n), blk h [.chan (some q)] 46, chn q cb (ys7.map fun n : Int => Value.int .i64 n), rde A7 (ci .i64 xs7), rde B7 (ci .i64 ys7), blk g56 [.slice B7 ys7.length d7, .int .i64 (cb : Int)] 30, blk g42 [.slice A7 xs7.length c7, .int .i64 (ca : Int)] 30, blk g3 [.slice A7 xs7.length c7, .int .i64 (ca : Int)] 30, blk g5 [.slice B7 ys7.length d7, .int .i64 (cb : Int)] 30] := H_
        clear H_
        have HV := HS
        have HK := Kpt.refl (fun _ => False) W63
        refine t_q (n := 37) 0 (.bool true) rfl (by kernel_rfl) (by kernel_rfl) (fun _ _ _ h => h) (fun w' hk => (by kernel_rfl)) HK ?_
        refine t_q (n := 36) 1 (.bool false) rfl (by kernel_rfl) (by kernel_rfl) (fun _ _ _ h => h) (fun w' hk => (by kernel_rfl)) HK ?_
        refine t_q (n := 35) 2 (.bool false) rfl (by kernel_rfl) (by kernel_rfl) (fun _ _ _ h => h) (fun w' hk => (by kernel_rfl)) HK ?_
        refine t_q (n := 34) 3 (.pointer (some ⟨g, 0, none⟩)) rfl (by kernel_rfl) (by kernel_rfl) (fun _ _ _ h => h) (fun w' hk => (by kernel_rfl)) HK ?_
        refine t_q (n := 33) 5 (.pointer (some ⟨g3, 0, none⟩)) rfl (by kernel_rfl) (by kernel_rfl) (fun _ _ _ h => h) (fun w' hk => (by kernel_rfl)) HK ?_
        refine t_q (n := 32) 6 (.slice A7 xs7.length c7) rfl (by kernel_rfl) (by kernel_rfl) (fun _ _ _ h => h) (fun w' hk => (R_load (p := ⟨g3, 0, none⟩) (by kernel_rfl) (by kernel_rfl) (by kernel_rfl) (hk.cell (HV.cell (i := 8) (j := 0) rfl rfl)))) HK ?_
        refine t_q (n := 31) 7 (.int .i64 (xs7.length : Int)) rfl (by kernel_rfl) (by kernel_rfl) (fun _ _ _ h => h) (fun w' hk => (by kernel_rfl)) HK ?_
        refine t_c (n := 30) 4 (f := 7) (args := #[.pointer (some ⟨g, 0, none⟩)]) rfl (by kernel_rfl) (by kernel_rfl) (R_call #[.pointer (some ⟨g, 0, none⟩)] Try.func7 (by kernel_rfl) (by kernel_rfl) (by kernel_rfl)) ?_
        refine (plen g p ca xs7 _ (HS.cell (i := 0) (j := 0) rfl rfl) (HS.get (i := 1) rfl) (by omega) (by omega)).mono ?_
        rintro e W64 ⟨rfl, H_⟩
        refine ⟨_, rfl, HK.tr H_.kept.nil, ?_⟩
        replace HK := HK.tr H_.kept.nil
        replace HS : St W (owns []) W64 [blk g [.chan (some p)] 46, chn p ca (xs7.map fun n : Int => Value.int .i64 n), blk h [.chan (some q)] 46, chn q cb (ys7.map fun n : Int => Value.int .i64 n), rde A7 (ci .i64 xs7), rde B7 (ci .i64 ys7), blk g56 [.slice B7 ys7.length d7, .int .i64 (cb : Int)] 30, blk g42 [.slice A7 xs7.length c7, .int .i64 (ca : Int)] 30, blk g3 [.slice A7 xs7.length c7, .int .i64 (ca : Int)] 30, blk g5 [.slice B7 ys7.length d7, .int .i64 (cb : Int)] 30] := HS.join (F := []) (G := []) H_
        clear H_
        refine t_q (n := 29) 8 (.bool false) rfl (by kernel_rfl) (by kernel_rfl) (fun _ _ _ h => h) (fun w' hk => (R_beq (b := ((xs7.length : Int) != (xs7.length : Int))) (by kernel_rfl) (bne_f (by omega)))) HK ?_
        refine t_q (n := 28) 9 (.bool false) rfl (by kernel_rfl) (by kernel_rfl) (fun _ _ _ h => h) (fun w' hk => (by kernel_rfl)) HK ?_
        refine t_q (n := 27) 10 (.bool false) rfl (by kernel_rfl) (by kernel_rfl) (fun _ _ _ h => h) (fun w' hk => (by kernel_rfl)) HK ?_
        refine t_q (n := 26) 11 (.pointer (some ⟨h, 0, none⟩)) rfl (by kernel_rfl) (by kernel_rfl) (fun _ _ _ h => h) (fun w' hk => (by kernel_rfl)) HK ?_
        refine t_q (n := 25) 13 (.pointer (some ⟨g5, 0, none⟩)) rfl (by kernel_rfl) (by kernel_rfl) (fun _ _ _ h => h) (fun w' hk => (by kernel_rfl)) HK ?_
        refine t_q (n := 24) 14 (.slice B7 ys7.length d7) rfl (by kernel_rfl) (by kernel_rfl) (fun _ _ _ h => h) (fun w' hk => (R_load (p := ⟨g5, 0, none⟩) (by kernel_rfl) (by kernel_rfl) (by kernel_rfl) (hk.cell (HV.cell (i := 9) (j := 0) rfl rfl)))) HK ?_
        refine t_q (n := 23) 15 (.int .i64 (ys7.length : Int)) rfl (by kernel_rfl) (by kernel_rfl) (fun _ _ _ h => h) (fun w' hk => (by kernel_rfl)) HK ?_
        refine t_c (n := 22) 12 (f := 7) (args := #[.pointer (some ⟨h, 0, none⟩)]) rfl (by kernel_rfl) (by kernel_rfl) (R_call #[.pointer (some ⟨h, 0, none⟩)] Try.func7 (by kernel_rfl) (by kernel_rfl) (by kernel_rfl)) ?_
        refine (plen h q cb ys7 _ (HS.cell (i := 2) (j := 0) rfl rfl) (HS.get (i := 3) rfl) (by omega) (by omega)).mono ?_
        rintro e W65 ⟨rfl, H_⟩
        refine ⟨_, rfl, HK.tr H_.kept.nil, ?_⟩
        replace HK := HK.tr H_.kept.nil
        replace HS : St W (owns []) W65 [blk g [.chan (some p)] 46, chn p ca (xs7.map fun n : Int => Value.int .i64 n), blk h [.chan (some q)] 46, chn q cb (ys7.map fun n : Int => Value.int .i64 n), rde A7 (ci .i64 xs7), rde B7 (ci .i64 ys7), blk g56 [.slice B7 ys7.length d7, .int .i64 (cb : Int)] 30, blk g42 [.slice A7 xs7.length c7, .int .i64 (ca : Int)] 30, blk g3 [.slice A7 xs7.length c7, .int .i64 (ca : Int)] 30, blk g5 [.slice B7 ys7.length d7, .int .i64 (cb : Int)] 30] := HS.join (F := []) (G := []) H_
        clear H_
        refine t_q (n := 21) 16 (.bool false) rfl (by kernel_rfl) (by kernel_rfl) (fun _ _ _ h => h) (fun w' hk => (R_beq (b := ((ys7.length : Int) != (ys7.length : Int))) (by kernel_rfl) (bne_f (by omega)))) HK ?_
        refine t_q (n := 20) 17 (.bool false) rfl (by kernel_rfl) (by kernel_rfl) (fun _ _ _ h => h) (fun w' hk => (by kernel_rfl)) HK ?_
        refine t_q (n := 19) 18 (.bool false) rfl (by kernel_rfl) (by kernel_rfl) (fun _ _ _ h => h) (fun w' hk => (by kernel_rfl)) HK ?_
        refine t_q (n := 18) 19 (.pointer (some ⟨g, 0, none⟩)) rfl (by kernel_rfl) (by kernel_rfl) (fun _ _ _ h => h) (fun w' hk => (by kernel_rfl)) HK ?_
        refine t_q (n := 17) 21 (.int .i64 (ca : Int)) rfl (by kernel_rfl) (by kernel_rfl) (fun _ _ _ h => h) (fun w' hk => (by kernel_rfl)) HK ?_
        refine t_q (n := 16) 22 (.pointer (some ⟨g3, 0, none⟩)) rfl (by kernel_rfl) (by kernel_rfl) (fun _ _ _ h => h) (fun w' hk => (by kernel_rfl)) HK ?_
        refine t_q (n := 15) 23 (.slice A7 xs7.length c7) rfl (by kernel_rfl) (by kernel_rfl) (fun _ _ _ h => h) (fun w' hk => (R_load (p := ⟨g3, 0, none⟩) (by kernel_rfl) (by kernel_rfl) (by kernel_rfl) (hk.cell (HV.cell (i := 8) (j := 0) rfl rfl)))) HK ?_
        refine t_q (n := 14) 24 (.int .i64 (xs7.length : Int)) rfl (by kernel_rfl) (by kernel_rfl) (fun _ _ _ h => h) (fun w' hk => (by kernel_rfl)) HK ?_
        refine t_q (n := 13) 25 (.int .i64 ((ca : Int) - (xs7.length : Int))) rfl (by kernel_rfl) (by kernel_rfl) (fun _ _ _ h => h) (fun w' hk => (R_int (by kernel_rfl) (w64 (by omega)))) HK ?_
        refine t_c (n := 12) 20 (f := 8) (args := #[.pointer (some ⟨g, 0, none⟩)]) rfl (by kernel_rfl) (by kernel_rfl) (R_call #[.pointer (some ⟨g, 0, none⟩)] Try.func8 (by kernel_rfl) (by kernel_rfl) (by kernel_rfl)) ?_
        refine (proom g p ca xs7 _ (HS.cell (i := 0) (j := 0) rfl rfl) (HS.get (i := 1) rfl) (by omega) (by omega)).mono ?_
        rintro e W66 ⟨rfl, H_⟩
        refine ⟨_, rfl, HK.tr H_.kept.nil, ?_⟩
        replace HK := HK.tr H_.kept.nil
        replace HS : St W (owns []) W66 [blk g [.chan (some p)] 46, chn p ca (xs7.map fun n : Int => Value.int .i64 n), blk h [.chan (some q)] 46, chn q cb (ys7.map fun n : Int => Value.int .i64 n), rde A7 (ci .i64 xs7), rde B7 (ci .i64 ys7), blk g56 [.slice B7 ys7.length d7, .int .i64 (cb : Int)] 30, blk g42 [.slice A7 xs7.length c7, .int .i64 (ca : Int)] 30, blk g3 [.slice A7 xs7.length c7, .int .i64 (ca : Int)] 30, blk g5 [.slice B7 ys7.length d7, .int .i64 (cb : Int)] 30] := HS.join (F := []) (G := []) H_
        clear H_
        refine t_q (n := 11) 26 (.bool false) rfl (by kernel_rfl) (by kernel_rfl) (fun _ _ _ h => h) (fun w' hk => (R_beq (b := ((ca : Int) - (xs7.length : Int) != (ca : Int) - (xs7.length : Int))) (by kernel_rfl) (bne_f (by omega)))) HK ?_
        refine t_q (n := 10) 27 (.bool false) rfl (by kernel_rfl) (by kernel_rfl) (fun _ _ _ h => h) (fun w' hk => (by kernel_rfl)) HK ?_
        refine t_q (n := 9) 28 (.bool false) rfl (by kernel_rfl) (by kernel_rfl) (fun _ _ _ h => h) (fun w' hk => (by kernel_rfl)) HK ?_
        refine t_q (n := 8) 29 (.pointer (some ⟨h, 0, none⟩)) rfl (by kernel_rfl) (by kernel_rfl) (fun _ _ _ h => h) (fun w' hk => (by kernel_rfl)) HK ?_
        refine t_q (n := 7) 31 (.int .i64 (cb : Int)) rfl (by kernel_rfl) (by kernel_rfl) (fun _ _ _ h => h) (fun w' hk => (by kernel_rfl)) HK ?_
        refine t_q (n := 6) 32 (.pointer (some ⟨g5, 0, none⟩)) rfl (by kernel_rfl) (by kernel_rfl) (fun _ _ _ h => h) (fun w' hk => (by kernel_rfl)) HK ?_
        refine t_q (n := 5) 33 (.slice B7 ys7.length d7) rfl (by kernel_rfl) (by kernel_rfl) (fun _ _ _ h => h) (fun w' hk => (R_load (p := ⟨g5, 0, none⟩) (by kernel_rfl) (by kernel_rfl) (by kernel_rfl) (hk.cell (HV.cell (i := 9) (j := 0) rfl rfl)))) HK ?_
        refine t_q (n := 4) 34 (.int .i64 (ys7.length : Int)) rfl (by kernel_rfl) (by kernel_rfl) (fun _ _ _ h => h) (fun w' hk => (by kernel_rfl)) HK ?_
        refine t_q (n := 3) 35 (.int .i64 ((cb : Int) - (ys7.length : Int))) rfl (by kernel_rfl) (by kernel_rfl) (fun _ _ _ h => h) (fun w' hk => (R_int (by kernel_rfl) (w64 (by omega)))) HK ?_
        refine t_c (n := 2) 30 (f := 8) (args := #[.pointer (some ⟨h, 0, none⟩)]) rfl (by kernel_rfl) (by kernel_rfl) (R_call #[.pointer (some ⟨h, 0, none⟩)] Try.func8 (by kernel_rfl) (by kernel_rfl) (by kernel_rfl)) ?_
        refine (proom h q cb ys7 _ (HS.cell (i := 2) (j := 0) rfl rfl) (HS.get (i := 3) rfl) (by omega) (by omega)).mono ?_
        rintro e W67 ⟨rfl, H_⟩
        refine ⟨_, rfl, HK.tr H_.kept.nil, ?_⟩
        replace HK := HK.tr H_.kept.nil
        replace HS : St W (owns []) W67 [blk g [.chan (some p)] 46, chn p ca (xs7.map fun n : Int => Value.int .i64 n), blk h [.chan (some q)] 46, chn q cb (ys7.map fun n : Int => Value.int .i64 n), rde A7 (ci .i64 xs7), rde B7 (ci .i64 ys7), blk g56 [.slice B7 ys7.length d7, .int .i64 (cb : Int)] 30, blk g42 [.slice A7 xs7.length c7, .int .i64 (ca : Int)] 30, blk g3 [.slice A7 xs7.length c7, .int .i64 (ca : Int)] 30, blk g5 [.slice B7 ys7.length d7, .int .i64 (cb : Int)] 30] := HS.join (F := []) (G := []) H_
        clear H_
        refine t_q (n := 1) 36 (.bool false) rfl (by kernel_rfl) (by kernel_rfl) (fun _ _ _ h => h) (fun w' hk => (R_beq (b := ((cb : Int) - (ys7.length : Int) != (cb : Int) - (ys7.length : Int))) (by kernel_rfl) (bne_f (by omega)))) HK ?_
        refine t_q (n := 0) 37 (.bool false) rfl (by kernel_rfl) (by kernel_rfl) (fun _ _ _ h => h) (fun w' hk => (by kernel_rfl)) HK ?_
        refine t_done (by kernel_rfl) ?_
        clear HV HK
        refine x_then ?_
        refine wp_cond_false (by kernel_rfl) ?_
        refine wp_skip ?_
        refine x_inb ?_
        refine x_then ?_
        refine wp_region_lit ?_
        refine ql (.int .i64 i) (by kernel_rfl) (by kernel_rfl) ?_
        refine ql (.int .i64 (i + 1)) (by kernel_rfl) (R_int (by kernel_rfl) (w64 (by omega))) ?_
        refine ql (.int .i64 (i + 1)) (by kernel_rfl) (by kernel_rfl) ?_
        refine wpList_nil ?_
        replace HS : St W (owns []) W67 [blk g [.chan (some p)] 46, chn p ca (xs7.map fun n : Int => Value.int .i64 n), blk h [.chan (some q)] 46, chn q cb (ys7.map fun n : Int => Value.int .i64 n), rde A7 (ci .i64 xs7), rde B7 (ci .i64 ys7), blk g3 [.slice A7 xs7.length c7, .int .i64 (ca : Int)] 30, blk g5 [.slice B7 ys7.length d7, .int .i64 (cb : Int)] 30] := St.tail (F := [blk g56 [.slice B7 ys7.length d7, .int .i64 (cb : Int)] 30, blk g42 [.slice A7 xs7.length c7, .int .i64 (ca : Int)] 30]) (HS.perm (perm_ [6, 7, 0, 1, 2, 3, 4, 5, 8, 9] (by kernel_rfl) rfl))
        refine x_then ?_
        exact ⟨acts.length - (i + 1).toNat, by omega, (fun k_ : Nat => List.getD ((.int .i64 (ca : Int)) :: (.int .i64 (cb : Int)) :: (.slice (some ad14) acts.length e) :: undef :: undef :: undef :: ((J9 6)) :: (.pointer (some ⟨g, 0, none⟩)) :: (.int .i64 0) :: (.pointer (some ⟨h, 0, none⟩)) :: (.int .i64 0) :: (.pointer (some ⟨g3, 0, none⟩)) :: (.pointer (some ⟨g5, 0, none⟩)) :: (.int .i64 (i + 1)) :: (.pointer (some ⟨g42, 0, none⟩)) :: (.pointer (some ⟨g56, 0, none⟩)) :: (.bool true) :: (.int .i64 (ca : Int)) :: (.bool false) :: (.bool false) :: undef :: undef :: (.bool false) :: (.bool false) :: (.int .i64 (cb : Int)) :: (.bool false) :: (.bool false) :: (.bool false) :: (.int .i64 (cb : Int)) :: (.bool false) :: (.bool false) :: (.bool false) :: (.slice (some ad14) acts.length e) :: (.int .i64 (acts.length : Int)) :: (.bool false) :: (.bool false) :: undef :: (.tuple #[.pointer (some ⟨g, 0, none⟩), .int .i64 0]) :: (.int .i64 (ca : Int)) :: (.tuple #[.pointer (some ⟨g, 0, none⟩), .int .i64 0]) :: (.pointer (some ⟨g, 0, none⟩)) :: (.int .i64 0) :: (.tuple #[.pointer (some ⟨h, 0, none⟩), .int .i64 0]) :: (.int .i64 (cb : Int)) :: (.tuple #[.pointer (some ⟨h, 0, none⟩), .int .i64 0]) :: (.pointer (some ⟨h, 0, none⟩)) :: (.int .i64 0) :: (.int .i64 (ca : Int)) :: (.bool false) :: undef :: undef :: undef :: undef :: undef :: undef :: undef :: undef :: undef :: (.int .i64 (ca : Int)) :: (.bool false) :: undef :: undef :: undef :: undef :: undef :: undef :: undef :: undef :: undef :: (.pointer (some ⟨g, 0, none⟩)) :: (.bool false) :: (.bool false) :: (.pointer (some ⟨h, 0, none⟩)) :: (.bool false) :: (.bool false) :: (.bool false) :: (.int .i64 0) :: (.bool false) :: (.bool false) :: (.bool false) :: (.int .i64 0) :: (.bool false) :: (.bool false) :: (.int .i64 (ca : Int)) :: (.agg #[.slice none 0 0, .int .i64 (ca : Int)]) :: (.int .i64 (cb : Int)) :: (.agg #[.slice none 0 0, .int .i64 (cb : Int)]) :: (.int .i64 i) :: (.slice (some ad14) acts.length e) :: (.int .i64 (acts.length : Int)) :: (.bool true) :: (.int .i64 i) :: (.int .i64 (i + 1)) :: (.tuple #[.agg #[.slice A7 xs7.length c7, .int .i64 (ca : Int)], .agg #[.slice B7 ys7.length d7, .int .i64 (cb : Int)], .bool true]) :: (.pointer (some ⟨g, 0, none⟩)) :: (.pointer (some ⟨h, 0, none⟩)) :: (.agg #[.slice Ax xs.length cx, .int .i64 (ca : Int)]) :: (.agg #[.slice By ys.length dy, .int .i64 (cb : Int)]) :: (.slice (some ad14) acts.length e) :: (.int .i64 i) :: (.pointer (some (ad14.add (i.toNat * 2)))) :: (.agg #[.int .i64 ((gx acts i).1), .int .i64 ((gx acts i).2)]) :: (.tuple #[.agg #[.slice A7 xs7.length c7, .int .i64 (ca : Int)], .agg #[.slice B7 ys7.length d7, .int .i64 (cb : Int)], .bool true]) :: (.agg #[.slice A7 xs7.length c7, .int .i64 (ca : Int)]) :: (.agg #[.slice B7 ys7.length d7, .int .i64 (cb : Int)]) :: (.bool true) :: (.agg #[.slice A7 xs7.length c7, .int .i64 (ca : Int)]) :: (.agg #[.slice B7 ys7.length d7, .int .i64 (cb : Int)]) :: (.bool true) :: (.bool false) :: (.bool false) :: (.pointer (some ⟨g, 0, none⟩)) :: (.int .i64 (xs7.length : Int)) :: (.pointer (some ⟨g3, 0, none⟩)) :: (.slice A7 xs7.length c7) :: (.int .i64 (xs7.length : Int)) :: (.bool false) :: (.bool false) :: (.bool false) :: (.pointer (some ⟨h, 0, none⟩)) :: (.int .i64 (ys7.length : Int)) :: (.pointer (some ⟨g5, 0, none⟩)) :: (.slice B7 ys7.length d7) :: (.int .i64 (ys7.length : Int)) :: (.bool false) :: (.bool false) :: (.bool false) :: (.pointer (some ⟨g, 0, none⟩)) :: (.int .i64 ((ca : Int) - (xs7.length : Int))) :: (.int .i64 (ca : Int)) :: (.pointer (some ⟨g3, 0, none⟩)) :: (.slice A7 xs7.length c7) :: (.int .i64 (xs7.length : Int)) :: (.int .i64 ((ca : Int) - (xs7.length : Int))) :: (.bool false) :: (.bool false) :: (.bool false) :: (.pointer (some ⟨h, 0, none⟩)) :: (.int .i64 ((cb : Int) - (ys7.length : Int))) :: (.int .i64 (cb : Int)) :: (.pointer (some ⟨g5, 0, none⟩)) :: (.slice B7 ys7.length d7) :: (.int .i64 (ys7.length : Int)) :: (.int .i64 ((cb : Int) - (ys7.length : Int))) :: (.bool false) :: (.bool false) :: undef :: undef :: undef :: undef :: undef :: undef :: undef :: undef :: undef :: undef :: undef :: undef :: undef :: undef :: undef :: []) k_ undef), i + 1, xs7, ys7, A7, c7, B7, d7, congrArg Fr (by kernel_rfl), rfl, by omega, by omega, hx7, hy7, hxc7, hyd7, HS⟩
    · skip
      obtain ⟨g68, W69, hg_, hw_, H_, hk_⟩ := ex_blk HS [.slice none 0 0, .int .i64 0] 30
      have hv_g68 := Nat.le_trans HK.size (Nat.le_of_eq (Eq.symm hg_))
      refine t_e2 (n := 9) 14 (.pointer (some ⟨g68, 0, none⟩)) rfl (by kernel_rfl) (by subst hg_; subst hw_; kernel_rfl) (HK.tr hk_) ?_
      replace HK := HK.tr hk_
      clear hk_
      clear hg_ hw_
      replace HS : St W (owns []) W69 [blk g68 [.slice none 0 0, .int .i64 0] 30, blk g [.chan (some p)] 46, chn p ca (xs.map fun n : Int => Value.int .i64 n), blk h [.chan (some q)] 46, chn q cb (ys.map fun n : Int => Value.int .i64 n), rde Ax (ci .i64 xs), rde By (ci .i64 ys), blk g3 [.slice Ax xs.length cx, .int .i64 (ca : Int)] 30, blk g5 [.slice By ys.length dy, .int .i64 (cb : Int)] 30] := H_
      clear H_
      refine t_pick2 (n := 8) 8 13 (by kernel_rfl) ?_ ?_
      · skip
        refine t_c2 (n := 8) 8 (f := 6) (args := #[.pointer (some ⟨g, 0, none⟩), .pointer (some ⟨h, 0, none⟩), .agg #[.slice Ax xs.length cx, .int .i64 (ca : Int)], .agg #[.slice By ys.length dy, .int .i64 (cb : Int)], .agg #[.int .i64 ((gx acts i).1), .int .i64 ((gx acts i).2)]]) rfl (by kernel_rfl) (R_call #[.pointer (some ⟨g, 0, none⟩), .pointer (some ⟨h, 0, none⟩), .agg #[.slice Ax xs.length cx, .int .i64 (ca : Int)], .agg #[.slice By ys.length dy, .int .i64 (cb : Int)], .agg #[.int .i64 ((gx acts i).1), .int .i64 ((gx acts i).2)]] Try.func6 (by kernel_rfl) (by kernel_rfl) (by kernel_rfl)) ?_
        replace HS : St W (owns []) W69 [blk g [.chan (some p)] 46, chn p ca (xs.map fun n : Int => Value.int .i64 n), blk h [.chan (some q)] 46, chn q cb (ys.map fun n : Int => Value.int .i64 n), rde Ax (ci .i64 xs), rde By (ci .i64 ys), blk g68 [.slice none 0 0, .int .i64 0] 30, blk g3 [.slice Ax xs.length cx, .int .i64 (ca : Int)] 30, blk g5 [.slice By ys.length dy, .int .i64 (cb : Int)] 30] := HS.perm (perm_ [1, 2, 3, 4, 5, 6, 0, 7, 8] (by kernel_rfl) rfl)
        refine (does_t g p ca h q cb Ax cx xs By dy ys ((gx acts i).1) ((gx acts i).2) _ _ (St.focus (F := [blk g [.chan (some p)] 46, chn p ca (xs.map fun n : Int => Value.int .i64 n), blk h [.chan (some q)] 46, chn q cb (ys.map fun n : Int => Value.int .i64 n), rde Ax (ci .i64 xs), rde By (ci .i64 ys)]) HS) (by omega) (by omega) hx hy hxc hyd).mono ?_
        rintro e W70 ⟨xs7, ys7, A7, c7, B7, d7, rfl, H_, hx7, hy7, hxc7, hyd7⟩
        have hkf_ : ∀ k_, owns [blk g [.chan (some p)] 46, chn p ca (xs.map fun n : Int => Value.int .i64 n), blk h [.chan (some q)] 46, chn q cb (ys.map fun n : Int => Value.int .i64 n), rde Ax (ci .i64 xs), rde By (ci .i64 ys)] k_ → (blk g [.chan (some p)] 46).own k_ ∨ (chn p ca (xs.map fun n : Int => Value.int .i64 n)).own k_ ∨ (blk h [.chan (some q)] 46).own k_ ∨ (chn q cb (ys.map fun n : Int => Value.int .i64 n)).own k_ ∨ (rde Ax (ci .i64 xs)).own k_ ∨ (rde By (ci .i64 ys)).own k_ := by
          intro k_ h_; obtain ⟨e_, he_, ho_⟩ := h_; simp only [List.mem_cons, List.not_mem_nil, or_false] at he_; rcases he_ with rfl | rfl | rfl | rfl | rfl | rfl <;> first | exact (.inl ho_) | exact (.inr (.inl ho_)) | exact (.inr (.inr (.inl ho_))) | exact (.inr (.inr (.inr (.inl ho_)))) | exact (.inr (.inr (.inr (.inr (.inl ho_))))) | exact (.inr (.inr (.inr (.inr (.inr ho_)))))
        refine ⟨_, rfl, HK.trans H_.kept (fun _ h_ => .inl (hkf_ _ h_)), ?_⟩
        replace HK := HK.trans H_.kept (fun _ h_ => .inl (hkf_ _ h_))
        replace HS : St W (owns []) W70 [blk g [.chan (some p)] 46, chn p ca (xs7.map fun n : Int => Value.int .i64 n), blk h [.chan (some q)] 46, chn q cb (ys7.map fun n : Int => Value.int .i64 n), rde A7 (ci .i64 xs7), rde B7 (ci .i64 ys7), blk g68 [.slice none 0 0, .int .i64 0] 30, blk g3 [.slice Ax xs.length cx, .int .i64 (ca : Int)] 30, blk g5 [.slice By ys.length dy, .int .i64 (cb : Int)] 30] := HS.join (F := [blk g [.chan (some p)] 46, chn p ca (xs.map fun n : Int => Value.int .i64 n), blk h [.chan (some q)] 46, chn q cb (ys.map fun n : Int => Value.int .i64 n), rde Ax (ci .i64 xs), rde By (ci .i64 ys)]) (G := [blk g [.chan (some p)] 46, chn p ca (xs7.map fun n : Int => Value.int .i64 n), blk h [.chan (some q)] 46, chn q cb (ys7.map fun n : Int => Value.int .i64 n), rde A7 (ci .i64 xs7), rde B7 (ci .i64 ys7)]) H_
        clear H_
        refine t_q (n := 7) 9 (.tuple #[.agg #[.slice A7 xs7.length c7, .int .i64 (ca : Int)], .agg #[.slice B7 ys7.length d7, .int .i64 (cb : Int)], .bool true]) rfl (by kernel_rfl) (by kernel_rfl) (fun _ _ _ h => h) (fun w' hk => (by kernel_rfl)) HK ?_
        refine t_q (n := 6) 10 (.agg #[.slice A7 xs7.length c7, .int .i64 (ca : Int)]) rfl (by kernel_rfl) (by kernel_rfl) (fun _ _ _ h => h) (fun w' hk => (by kernel_rfl)) HK ?_
        refine t_q (n := 5) 11 (.agg #[.slice B7 ys7.length d7, .int .i64 (cb : Int)]) rfl (by kernel_rfl) (by kernel_rfl) (fun _ _ _ h => h) (fun w' hk => (by kernel_rfl)) HK ?_
        refine t_q (n := 4) 12 (.bool true) rfl (by kernel_rfl) (by kernel_rfl) (fun _ _ _ h => h) (fun w' hk => (by kernel_rfl)) HK ?_
        obtain ⟨g71, W72, hg_, hw_, H_, hk_⟩ := ex_blk HS [.slice none 0 0, .int .i64 0] 30
        have hv_g71 := Nat.le_trans HK.size (Nat.le_of_eq (Eq.symm hg_))
        refine t_e (n := 3) 13 (.pointer (some ⟨g71, 0, none⟩)) rfl (by kernel_rfl) (by kernel_rfl) (by subst hg_; subst hw_; kernel_rfl) (HK.tr hk_) ?_
        replace HK := HK.tr hk_
        clear hk_
        clear hg_ hw_
        replace HS : St W (owns []) W72 [blk g71 [.slice none 0 0, .int .i64 0] 30, blk g [.chan (some p)] 46, chn p ca (xs7.map fun n : Int => Value.int .i64 n), blk h [.chan (some q)] 46, chn q cb (ys7.map fun n : Int => Value.int .i64 n), rde A7 (ci .i64 xs7), rde B7 (ci .i64 ys7), blk g68 [.slice none 0 0, .int .i64 0] 30, blk g3 [.slice Ax xs.length cx, .int .i64 (ca : Int)] 30, blk g5 [.slice By ys.length dy, .int .i64 (cb : Int)] 30] := H_
        clear H_
        obtain ⟨W73, hrun_, H_, hk_⟩ := ex_ks (P := Try.prog) (ty := 0) (ps := "law.go:63") (af := #[{ on := 13, ground := Go.Ground.data }, { on := 10, ground := Go.Ground.data }, { on := 8, ground := Go.Ground.chain }, { on := 0, ground := Go.Ground.phase }, { on := 1, ground := Go.Ground.phase }, { on := 2, ground := Go.Ground.phase }, { on := 3, ground := Go.Ground.phase }, { on := 4, ground := Go.Ground.phase }, { on := 5, ground := Go.Ground.phase }, { on := 6, ground := Go.Ground.phase }, { on := 7, ground := Go.Ground.phase }, { on := 8, ground := Go.Ground.phase }, { on := 9, ground := Go.Ground.phase }, { on := 10, ground := Go.Ground.phase }, { on := 11, ground := (Go.Ground.textOnly Go.Departure.lateStores) }, { on := 12, ground := (Go.Ground.textOnly Go.Departure.lateStores) }, { on := 13, ground := Go.Ground.phase }, { on := 14, ground := Go.Ground.phase }]) (gd := none) (t := 30) (x := (Go.Operand.tmp 14)) (y := (Go.Operand.tmp 103)) (v := .agg #[.slice A7 xs7.length c7, .int .i64 (ca : Int)]) HS 0 rfl (0) [.slice A7 xs7.length c7, .int .i64 (ca : Int)] (by kernel_rfl) (by kernel_rfl) (by kernel_rfl) (by kernel_rfl) (one_ (by kernel_rfl)) (Nat.le_of_ble_eq_true rfl)
        replace HK := HK.trans hk_ (fun _ h_ => .inr (Nat.le_trans hv_g71 (Nat.le_of_eq (Eq.symm h_))))
        refine t_s (n := 2) 15 rfl (by kernel_rfl) (by kernel_rfl) hrun_ HK ?_
        clear hk_ hrun_
        replace HS : St W (owns []) W73 [blk g71 [.slice A7 xs7.length c7, .int .i64 (ca : Int)] 30, blk g [.chan (some p)] 46, chn p ca (xs7.map fun n : Int => Value.int .i64 n), blk h [.chan (some q)] 46, chn q cb (ys7.map fun n : Int => Value.int .i64 n), rde A7 (ci .i64 xs7), rde B7 (ci .i64 ys7), blk g68 [.slice none 0 0, .int .i64 0] 30, blk g3 [.slice Ax xs.length cx, .int .i64 (ca : Int)] 30, blk g5 [.slice By ys.length dy, .int .i64 (cb : Int)] 30] := H_
        clear H_
        obtain ⟨W74, hrun_, H_, hk_⟩ := ex_ks (P := Try.prog) (ty := 0) (ps := "law.go:63") (af := #[{ on := 14, ground := Go.Ground.data }, { on := 11, ground := Go.Ground.data }, { on := 15, ground := Go.Ground.chain }, { on := 0, ground := Go.Ground.phase }, { on := 1, ground := Go.Ground.phase }, { on := 2, ground := Go.Ground.phase }, { on := 3, ground := Go.Ground.phase }, { on := 4, ground := Go.Ground.phase }, { on := 5, ground := Go.Ground.phase }, { on := 6, ground := Go.Ground.phase }, { on := 7, ground := Go.Ground.phase }, { on := 8, ground := Go.Ground.phase }, { on := 9, ground := Go.Ground.phase }, { on := 10, ground := Go.Ground.phase }, { on := 11, ground := Go.Ground.phase }, { on := 12, ground := (Go.Ground.textOnly Go.Departure.lateStores) }, { on := 13, ground := Go.Ground.phase }, { on := 14, ground := Go.Ground.phase }, { on := 15, ground := Go.Ground.phase }]) (gd := none) (t := 30) (x := (Go.Operand.tmp 15)) (y := (Go.Operand.tmp 104)) (v := .agg #[.slice B7 ys7.length d7, .int .i64 (cb : Int)]) HS 7 rfl (0) [.slice B7 ys7.length d7, .int .i64 (cb : Int)] (by kernel_rfl) (by kernel_rfl) (by kernel_rfl) (by kernel_rfl) (one_ (by kernel_rfl)) (Nat.le_of_ble_eq_true rfl)
        replace HK := HK.trans hk_ (fun _ h_ => .inr (Nat.le_trans hv_g68 (Nat.le_of_eq (Eq.symm h_))))
        refine t_s (n := 1) 16 rfl (by kernel_rfl) (by kernel_rfl) hrun_ HK ?_
        clear hk_ hrun_
        replace HS : St W (owns []) W74 [blk g71 [.slice A7 xs7.length c7, .int .i64 (ca : Int)] 30, blk g [.chan (some p)] 46, chn p ca (xs7.map fun n : Int => Value.int .i64 n), blk h [.chan (some q)] 46, chn q cb (ys7.map fun n : Int => Value.int .i64 n), rde A7 (ci .i64 xs7), rde B7 (ci .i64 ys7), blk g68 [.slice B7 ys7.length d7, .int .i64 (cb : Int)] 30, blk g3 [.slice Ax xs.length cx, .int .i64 (ca : Int)] 30, blk g5 [.slice By ys.length dy, .int .i64 (cb : Int)] 30] := H_
        clear H_
        refine t_q (n := 0) 17 (.bool true) rfl (by kernel_rfl) (by kernel_rfl) (fun _ _ _ h => h) (fun w' hk => (by kernel_rfl)) HK ?_
        refine t_done (by kernel_rfl) ?_
        clear HV HK
        refine x_then ?_
        refine wp_seq ?_
        refine wp_region_lit ?_
        refine ql (.agg #[.slice A7 xs7.length c7, .int .i64 (ca : Int)]) (by kernel_rfl) (R_loadN (p := ⟨g71, 0, none⟩) [.slice A7 xs7.length c7, .int .i64 (ca : Int)] (by kernel_rfl) (by kernel_rfl) (by kernel_rfl) (by kernel_rfl) (two_at (HS.cell (i := 0) (j := 0) rfl rfl) (HS.cell (i := 0) (j := 1) rfl rfl))) ?_
        refine ks (v := .agg #[.slice A7 xs7.length c7, .int .i64 (ca : Int)]) HS 8 rfl (0) [.slice A7 xs7.length c7, .int .i64 (ca : Int)] (by kernel_rfl) (by kernel_rfl) (by kernel_rfl) (by kernel_rfl) (by kernel_rfl) (one_ (by kernel_rfl)) (Nat.le_of_ble_eq_true rfl) rfl ?_
        intro W75 H_
        replace HS : St W (owns []) W75 [blk g71 [.slice A7 xs7.length c7, .int .i64 (ca : Int)] 30, blk g [.chan (some p)] 46, chn p ca (xs7.map fun n : Int => Value.int .i64 n), blk h [.chan (some q)] 46, chn q cb (ys7.map fun n : Int => Value.int .i64 n), rde A7 (ci .i64 xs7), rde B7 (ci .i64 ys7), blk g68 [.slice B7 ys7.length d7, .int .i64 (cb : Int)] 30, blk g3 [.slice A7 xs7.length c7, .int .i64 (ca : Int)] 30, blk g5 [.slice By ys.length dy, .int .i64 (cb : Int)] 30] := H_
        clear H_
        refine wpList_nil ?_
        refine x_then ?_
        refine wp_seq ?_
        refine wp_region_lit ?_
        refine ql (.agg #[.slice B7 ys7.length d7, .int .i64 (cb : Int)]) (by kernel_rfl) (R_loadN (p := ⟨g68, 0, none⟩) [.slice B7 ys7.length d7, .int .i64 (cb : Int)] (by kernel_rfl) (by kernel_rfl) (by kernel_rfl) (by kernel_rfl) (two_at (HS.cell (i := 7) (j := 0) rfl rfl) (HS.cell (i := 7) (j := 1) rfl rfl))) ?_
        refine ks (v := .agg #[.slice B7 ys7.length d7, .int .i64 (cb : Int)]) HS 9 rfl (0) [.slice B7 ys7.length d7, .int .i64 (cb : Int)] (by kernel_rfl) (by kernel_rfl) (by kernel_rfl) (by kernel_rfl) (by kernel_rfl) (one_ (by kernel_rfl)) (Nat.le_of_ble_eq_true rfl) rfl ?_
        intro W76 H_
        replace HS : St W (owns []) W76 [blk g71 [.slice A7 xs7.length c7, .int .i64 (ca : Int)] 30, blk g [.chan (some p)] 46, chn p ca (xs7.map fun n : Int => Value.int .i64 n), blk h [.chan (some q)] 46, chn q cb (ys7.map fun n : Int => Value.int .i64 n), rde A7 (ci .i64 xs7), rde B7 (ci .i64 ys7), blk g68 [.slice B7 ys7.length d7, .int .i64 (cb : Int)] 30, blk g3 [.slice A7 xs7.length c7, .int .i64 (ca : Int)] 30, blk g5 [.slice B7 ys7.length d7, .int .i64 (cb : Int)] 30] := H_
        clear H_
        refine wpList_nil ?_
        refine x_then ?_
        refine wp_seq ?_
        refine t_start HS (fun _ => False) 38 (by kernel_rfl) rfl ?_
        intro W77 H_ HD_
        clear HD_
        replace HS : St W (owns []) W77 [blk g71 [.slice A7 xs7.length c7, .int .i64 (ca : Int)] 30, blk g [.chan (some p)] 46, chn p ca (xs7.map fun n : Int => Value.int .i64 n), blk h [.chan (some q)] 46, chn q cb (ys7.map fun n : Int => Value.int .i64 n), rde A7 (ci .i64 xs7), rde B7 (ci .i64 ys7), blk g68 [.slice B7 ys7.length d7, .int .i64 (cb : Int)] 30, blk g3 [.slice A7 xs7.length c7, .int .i64 (ca : Int)] 30, blk g5 [.slice B7 ys7.length d7, .int .i64 (cb : Int)] 30] := H_
        clear H_
        have HV := HS
        have HK := Kpt.refl (fun _ => False) W77
        refine t_q (n := 37) 0 (.bool true) rfl (by kernel_rfl) (by kernel_rfl) (fun _ _ _ h => h) (fun w' hk => (by kernel_rfl)) HK ?_
        refine t_q (n := 36) 1 (.bool false) rfl (by kernel_rfl) (by kernel_rfl) (fun _ _ _ h => h) (fun w' hk => (by kernel_rfl)) HK ?_
        refine t_q (n := 35) 2 (.bool false) rfl (by kernel_rfl) (by kernel_rfl) (fun _ _ _ h => h) (fun w' hk => (by kernel_rfl)) HK ?_
        refine t_q (n := 34) 3 (.pointer (some ⟨g, 0, none⟩)) rfl (by kernel_rfl) (by kernel_rfl) (fun _ _ _ h => h) (fun w' hk => (by kernel_rfl)) HK ?_
        refine t_q (n := 33) 5 (.pointer (some ⟨g3, 0, none⟩)) rfl (by kernel_rfl) (by kernel_rfl) (fun _ _ _ h => h) (fun w' hk => (by kernel_rfl)) HK ?_
        refine t_q (n := 32) 6 (.slice A7 xs7.length c7) rfl (by kernel_rfl) (by kernel_rfl) (fun _ _ _ h => h) (fun w' hk => (R_load (p := ⟨g3, 0, none⟩) (by kernel_rfl) (by kernel_rfl) (by kernel_rfl) (hk.cell (HV.cell (i := 8) (j := 0) rfl rfl)))) HK ?_
        refine t_q (n := 31) 7 (.int .i64 (xs7.length : Int)) rfl (by kernel_rfl) (by kernel_rfl) (fun _ _ _ h => h) (fun w' hk => (by kernel_rfl)) HK ?_
        refine t_c (n := 30) 4 (f := 7) (args := #[.pointer (some ⟨g, 0, none⟩)]) rfl (by kernel_rfl) (by kernel_rfl) (R_call #[.pointer (some ⟨g, 0, none⟩)] Try.func7 (by kernel_rfl) (by kernel_rfl) (by kernel_rfl)) ?_
        refine (plen g p ca xs7 _ (HS.cell (i := 1) (j := 0) rfl rfl) (HS.get (i := 2) rfl) (by omega) (by omega)).mono ?_
        rintro e W78 ⟨rfl, H_⟩
        refine ⟨_, rfl, HK.tr H_.kept.nil, ?_⟩
        replace HK := HK.tr H_.kept.nil
        replace HS : St W (owns []) W78 [blk g71 [.slice A7 xs7.length c7, .int .i64 (ca : Int)] 30, blk g [.chan (some p)] 46, chn p ca (xs7.map fun n : Int => Value.int .i64 n), blk h [.chan (some q)] 46, chn q cb (ys7.map fun n : Int => Value.int .i64 n), rde A7 (ci .i64 xs7), rde B7 (ci .i64 ys7), blk g68 [.slice B7 ys7.length d7, .int .i64 (cb : Int)] 30, blk g3 [.slice A7 xs7.length c7, .int .i64 (ca : Int)] 30, blk g5 [.slice B7 ys7.length d7, .int .i64 (cb : Int)] 30] := HS.join (F := []) (G := []) H_
        clear H_
        refine t_q (n := 29) 8 (.bool false) rfl (by kernel_rfl) (by kernel_rfl) (fun _ _ _ h => h) (fun w' hk => (R_beq (b := ((xs7.length : Int) != (xs7.length : Int))) (by kernel_rfl) (bne_f (by omega)))) HK ?_
        refine t_q (n := 28) 9 (.bool false) rfl (by kernel_rfl) (by kernel_rfl) (fun _ _ _ h => h) (fun w' hk => (by kernel_rfl)) HK ?_
        refine t_q (n := 27) 10 (.bool false) rfl (by kernel_rfl) (by kernel_rfl) (fun _ _ _ h => h) (fun w' hk => (by kernel_rfl)) HK ?_
        refine t_q (n := 26) 11 (.pointer (some ⟨h, 0, none⟩)) rfl (by kernel_rfl) (by kernel_rfl) (fun _ _ _ h => h) (fun w' hk => (by kernel_rfl)) HK ?_
        refine t_q (n := 25) 13 (.pointer (some ⟨g5, 0, none⟩)) rfl (by kernel_rfl) (by kernel_rfl) (fun _ _ _ h => h) (fun w' hk => (by kernel_rfl)) HK ?_
        refine t_q (n := 24) 14 (.slice B7 ys7.length d7) rfl (by kernel_rfl) (by kernel_rfl) (fun _ _ _ h => h) (fun w' hk => (R_load (p := ⟨g5, 0, none⟩) (by kernel_rfl) (by kernel_rfl) (by kernel_rfl) (hk.cell (HV.cell (i := 9) (j := 0) rfl rfl)))) HK ?_
        refine t_q (n := 23) 15 (.int .i64 (ys7.length : Int)) rfl (by kernel_rfl) (by kernel_rfl) (fun _ _ _ h => h) (fun w' hk => (by kernel_rfl)) HK ?_
        refine t_c (n := 22) 12 (f := 7) (args := #[.pointer (some ⟨h, 0, none⟩)]) rfl (by kernel_rfl) (by kernel_rfl) (R_call #[.pointer (some ⟨h, 0, none⟩)] Try.func7 (by kernel_rfl) (by kernel_rfl) (by kernel_rfl)) ?_
        refine (plen h q cb ys7 _ (HS.cell (i := 3) (j := 0) rfl rfl) (HS.get (i := 4) rfl) (by omega) (by omega)).mono ?_
        rintro e W79 ⟨rfl, H_⟩
        refine ⟨_, rfl, HK.tr H_.kept.nil, ?_⟩
        replace HK := HK.tr H_.kept.nil
        replace HS : St W (owns []) W79 [blk g71 [.slice A7 xs7.length c7, .int .i64 (ca : Int)] 30, blk g [.chan (some p)] 46, chn p ca (xs7.map fun n : Int => Value.int .i64 n), blk h [.chan (some q)] 46, chn q cb (ys7.map fun n : Int => Value.int .i64 n), rde A7 (ci .i64 xs7), rde B7 (ci .i64 ys7), blk g68 [.slice B7 ys7.length d7, .int .i64 (cb : Int)] 30, blk g3 [.slice A7 xs7.length c7, .int .i64 (ca : Int)] 30, blk g5 [.slice B7 ys7.length d7, .int .i64 (cb : Int)] 30] := HS.join (F := []) (G := []) H_
        clear H_
        refine t_q (n := 21) 16 (.bool false) rfl (by kernel_rfl) (by kernel_rfl) (fun _ _ _ h => h) (fun w' hk => (R_beq (b := ((ys7.length : Int) != (ys7.length : Int))) (by kernel_rfl) (bne_f (by omega)))) HK ?_
        refine t_q (n := 20) 17 (.bool false) rfl (by kernel_rfl) (by kernel_rfl) (fun _ _ _ h => h) (fun w' hk => (by kernel_rfl)) HK ?_
        refine t_q (n := 19) 18 (.bool false) rfl (by kernel_rfl) (by kernel_rfl) (fun _ _ _ h => h) (fun w' hk => (by kernel_rfl)) HK ?_
        refine t_q (n := 18) 19 (.pointer (some ⟨g, 0, none⟩)) rfl (by kernel_rfl) (by kernel_rfl) (fun _ _ _ h => h) (fun w' hk => (by kernel_rfl)) HK ?_
        refine t_q (n := 17) 21 (.int .i64 (ca : Int)) rfl (by kernel_rfl) (by kernel_rfl) (fun _ _ _ h => h) (fun w' hk => (by kernel_rfl)) HK ?_
        refine t_q (n := 16) 22 (.pointer (some ⟨g3, 0, none⟩)) rfl (by kernel_rfl) (by kernel_rfl) (fun _ _ _ h => h) (fun w' hk => (by kernel_rfl)) HK ?_
        refine t_q (n := 15) 23 (.slice A7 xs7.length c7) rfl (by kernel_rfl) (by kernel_rfl) (fun _ _ _ h => h) (fun w' hk => (R_load (p := ⟨g3, 0, none⟩) (by kernel_rfl) (by kernel_rfl) (by kernel_rfl) (hk.cell (HV.cell (i := 8) (j := 0) rfl rfl)))) HK ?_
        refine t_q (n := 14) 24 (.int .i64 (xs7.length : Int)) rfl (by kernel_rfl) (by kernel_rfl) (fun _ _ _ h => h) (fun w' hk => (by kernel_rfl)) HK ?_
        refine t_q (n := 13) 25 (.int .i64 ((ca : Int) - (xs7.length : Int))) rfl (by kernel_rfl) (by kernel_rfl) (fun _ _ _ h => h) (fun w' hk => (R_int (by kernel_rfl) (w64 (by omega)))) HK ?_
        refine t_c (n := 12) 20 (f := 8) (args := #[.pointer (some ⟨g, 0, none⟩)]) rfl (by kernel_rfl) (by kernel_rfl) (R_call #[.pointer (some ⟨g, 0, none⟩)] Try.func8 (by kernel_rfl) (by kernel_rfl) (by kernel_rfl)) ?_
        refine (proom g p ca xs7 _ (HS.cell (i := 1) (j := 0) rfl rfl) (HS.get (i := 2) rfl) (by omega) (by omega)).mono ?_
        rintro e W80 ⟨rfl, H_⟩
        refine ⟨_, rfl, HK.tr H_.kept.nil, ?_⟩
        replace HK := HK.tr H_.kept.nil
        replace HS : St W (owns []) W80 [blk g71 [.slice A7 xs7.length c7, .int .i64 (ca : Int)] 30, blk g [.chan (some p)] 46, chn p ca (xs7.map fun n : Int => Value.int .i64 n), blk h [.chan (some q)] 46, chn q cb (ys7.map fun n : Int => Value.int .i64 n), rde A7 (ci .i64 xs7), rde B7 (ci .i64 ys7), blk g68 [.slice B7 ys7.length d7, .int .i64 (cb : Int)] 30, blk g3 [.slice A7 xs7.length c7, .int .i64 (ca : Int)] 30, blk g5 [.slice B7 ys7.length d7, .int .i64 (cb : Int)] 30] := HS.join (F := []) (G := []) H_
        clear H_
        refine t_q (n := 11) 26 (.bool false) rfl (by kernel_rfl) (by kernel_rfl) (fun _ _ _ h => h) (fun w' hk => (R_beq (b := ((ca : Int) - (xs7.length : Int) != (ca : Int) - (xs7.length : Int))) (by kernel_rfl) (bne_f (by omega)))) HK ?_
        refine t_q (n := 10) 27 (.bool false) rfl (by kernel_rfl) (by kernel_rfl) (fun _ _ _ h => h) (fun w' hk => (by kernel_rfl)) HK ?_
        refine t_q (n := 9) 28 (.bool false) rfl (by kernel_rfl) (by kernel_rfl) (fun _ _ _ h => h) (fun w' hk => (by kernel_rfl)) HK ?_
        refine t_q (n := 8) 29 (.pointer (some ⟨h, 0, none⟩)) rfl (by kernel_rfl) (by kernel_rfl) (fun _ _ _ h => h) (fun w' hk => (by kernel_rfl)) HK ?_
        refine t_q (n := 7) 31 (.int .i64 (cb : Int)) rfl (by kernel_rfl) (by kernel_rfl) (fun _ _ _ h => h) (fun w' hk => (by kernel_rfl)) HK ?_
        refine t_q (n := 6) 32 (.pointer (some ⟨g5, 0, none⟩)) rfl (by kernel_rfl) (by kernel_rfl) (fun _ _ _ h => h) (fun w' hk => (by kernel_rfl)) HK ?_
        refine t_q (n := 5) 33 (.slice B7 ys7.length d7) rfl (by kernel_rfl) (by kernel_rfl) (fun _ _ _ h => h) (fun w' hk => (R_load (p := ⟨g5, 0, none⟩) (by kernel_rfl) (by kernel_rfl) (by kernel_rfl) (hk.cell (HV.cell (i := 9) (j := 0) rfl rfl)))) HK ?_
        refine t_q (n := 4) 34 (.int .i64 (ys7.length : Int)) rfl (by kernel_rfl) (by kernel_rfl) (fun _ _ _ h => h) (fun w' hk => (by kernel_rfl)) HK ?_
        refine t_q (n := 3) 35 (.int .i64 ((cb : Int) - (ys7.length : Int))) rfl (by kernel_rfl) (by kernel_rfl) (fun _ _ _ h => h) (fun w' hk => (R_int (by kernel_rfl) (w64 (by omega)))) HK ?_
        refine t_c (n := 2) 30 (f := 8) (args := #[.pointer (some ⟨h, 0, none⟩)]) rfl (by kernel_rfl) (by kernel_rfl) (R_call #[.pointer (some ⟨h, 0, none⟩)] Try.func8 (by kernel_rfl) (by kernel_rfl) (by kernel_rfl)) ?_
        refine (proom h q cb ys7 _ (HS.cell (i := 3) (j := 0) rfl rfl) (HS.get (i := 4) rfl) (by omega) (by omega)).mono ?_
        rintro e W81 ⟨rfl, H_⟩
        refine ⟨_, rfl, HK.tr H_.kept.nil, ?_⟩
        replace HK := HK.tr H_.kept.nil
        replace HS : St W (owns []) W81 [blk g71 [.slice A7 xs7.length c7, .int .i64 (ca : Int)] 30, blk g [.chan (some p)] 46, chn p ca (xs7.map fun n : Int => Value.int .i64 n), blk h [.chan (some q)] 46, chn q cb (ys7.map fun n : Int => Value.int .i64 n), rde A7 (ci .i64 xs7), rde B7 (ci .i64 ys7), blk g68 [.slice B7 ys7.length d7, .int .i64 (cb : Int)] 30, blk g3 [.slice A7 xs7.length c7, .int .i64 (ca : Int)] 30, blk g5 [.slice B7 ys7.length d7, .int .i64 (cb : Int)] 30] := HS.join (F := []) (G := []) H_
        clear H_
        refine t_q (n := 1) 36 (.bool false) rfl (by kernel_rfl) (by kernel_rfl) (fun _ _ _ h => h) (fun w' hk => (R_beq (b := ((cb : Int) - (ys7.length : Int) != (cb : Int) - (ys7.length : Int))) (by kernel_rfl) (bne_f (by omega)))) HK ?_
        refine t_q (n := 0) 37 (.bool false) rfl (by kernel_rfl) (by kernel_rfl) (fun _ _ _ h => h) (fun w' hk => (by kernel_rfl)) HK ?_
        refine t_done (by kernel_rfl) ?_
        clear HV HK
        refine x_then ?_
        refine wp_cond_false (by kernel_rfl) ?_
        refine wp_skip ?_
        refine x_inb ?_
        refine x_then ?_
        refine wp_region_lit ?_
        refine ql (.int .i64 i) (by kernel_rfl) (by kernel_rfl) ?_
        refine ql (.int .i64 (i + 1)) (by kernel_rfl) (R_int (by kernel_rfl) (w64 (by omega))) ?_
        refine ql (.int .i64 (i + 1)) (by kernel_rfl) (by kernel_rfl) ?_
        refine wpList_nil ?_
        replace HS : St W (owns []) W81 [blk g [.chan (some p)] 46, chn p ca (xs7.map fun n : Int => Value.int .i64 n), blk h [.chan (some q)] 46, chn q cb (ys7.map fun n : Int => Value.int .i64 n), rde A7 (ci .i64 xs7), rde B7 (ci .i64 ys7), blk g3 [.slice A7 xs7.length c7, .int .i64 (ca : Int)] 30, blk g5 [.slice B7 ys7.length d7, .int .i64 (cb : Int)] 30] := St.tail (F := [blk g71 [.slice A7 xs7.length c7, .int .i64 (ca : Int)] 30, blk g68 [.slice B7 ys7.length d7, .int .i64 (cb : Int)] 30]) (HS.perm (perm_ [0, 7, 1, 2, 3, 4, 5, 6, 8, 9] (by kernel_rfl) rfl))
        refine x_then ?_
        exact ⟨acts.length - (i + 1).toNat, by omega, (fun k_ : Nat => List.getD ((.int .i64 (ca : Int)) :: (.int .i64 (cb : Int)) :: (.slice (some ad14) acts.length e) :: undef :: undef :: undef :: ((J9 6)) :: (.pointer (some ⟨g, 0, none⟩)) :: (.int .i64 0) :: (.pointer (some ⟨h, 0, none⟩)) :: (.int .i64 0) :: (.pointer (some ⟨g3, 0, none⟩)) :: (.pointer (some ⟨g5, 0, none⟩)) :: (.int .i64 (i + 1)) :: (.pointer (some ⟨g71, 0, none⟩)) :: (.pointer (some ⟨g68, 0, none⟩)) :: (.bool true) :: (.int .i64 (ca : Int)) :: (.bool false) :: (.bool false) :: undef :: undef :: (.bool false) :: (.bool false) :: (.int .i64 (cb : Int)) :: (.bool false) :: (.bool false) :: (.bool false) :: (.int .i64 (cb : Int)) :: (.bool false) :: (.bool false) :: (.bool false) :: (.slice (some ad14) acts.length e) :: (.int .i64 (acts.length : Int)) :: (.bool false) :: (.bool false) :: undef :: (.tuple #[.pointer (some ⟨g, 0, none⟩), .int .i64 0]) :: (.int .i64 (ca : Int)) :: (.tuple #[.pointer (some ⟨g, 0, none⟩), .int .i64 0]) :: (.pointer (some ⟨g, 0, none⟩)) :: (.int .i64 0) :: (.tuple #[.pointer (some ⟨h, 0, none⟩), .int .i64 0]) :: (.int .i64 (cb : Int)) :: (.tuple #[.pointer (some ⟨h, 0, none⟩), .int .i64 0]) :: (.pointer (some ⟨h, 0, none⟩)) :: (.int .i64 0) :: (.int .i64 (ca : Int)) :: (.bool false) :: undef :: undef :: undef :: undef :: undef :: undef :: undef :: undef :: undef :: (.int .i64 (ca : Int)) :: (.bool false) :: undef :: undef :: undef :: undef :: undef :: undef :: undef :: undef :: undef :: (.pointer (some ⟨g, 0, none⟩)) :: (.bool false) :: (.bool false) :: (.pointer (some ⟨h, 0, none⟩)) :: (.bool false) :: (.bool false) :: (.bool false) :: (.int .i64 0) :: (.bool false) :: (.bool false) :: (.bool false) :: (.int .i64 0) :: (.bool false) :: (.bool false) :: (.int .i64 (ca : Int)) :: (.agg #[.slice none 0 0, .int .i64 (ca : Int)]) :: (.int .i64 (cb : Int)) :: (.agg #[.slice none 0 0, .int .i64 (cb : Int)]) :: (.int .i64 i) :: (.slice (some ad14) acts.length e) :: (.int .i64 (acts.length : Int)) :: (.bool true) :: (.int .i64 i) :: (.int .i64 (i + 1)) :: (.tuple #[.agg #[.slice A7 xs7.length c7, .int .i64 (ca : Int)], .agg #[.slice B7 ys7.length d7, .int .i64 (cb : Int)], .bool true]) :: (.pointer (some ⟨g, 0, none⟩)) :: (.pointer (some ⟨h, 0, none⟩)) :: (.agg #[.slice Ax xs.length cx, .int .i64 (ca : Int)]) :: (.agg #[.slice By ys.length dy, .int .i64 (cb : Int)]) :: (.slice (some ad14) acts.length e) :: (.int .i64 i) :: (.pointer (some (ad14.add (i.toNat * 2)))) :: (.agg #[.int .i64 ((gx acts i).1), .int .i64 ((gx acts i).2)]) :: (.tuple #[.agg #[.slice A7 xs7.length c7, .int .i64 (ca : Int)], .agg #[.slice B7 ys7.length d7, .int .i64 (cb : Int)], .bool true]) :: (.agg #[.slice A7 xs7.length c7, .int .i64 (ca : Int)]) :: (.agg #[.slice B7 ys7.length d7, .int .i64 (cb : Int)]) :: (.bool true) :: (.agg #[.slice A7 xs7.length c7, .int .i64 (ca : Int)]) :: (.agg #[.slice B7 ys7.length d7, .int .i64 (cb : Int)]) :: (.bool true) :: (.bool false) :: (.bool false) :: (.pointer (some ⟨g, 0, none⟩)) :: (.int .i64 (xs7.length : Int)) :: (.pointer (some ⟨g3, 0, none⟩)) :: (.slice A7 xs7.length c7) :: (.int .i64 (xs7.length : Int)) :: (.bool false) :: (.bool false) :: (.bool false) :: (.pointer (some ⟨h, 0, none⟩)) :: (.int .i64 (ys7.length : Int)) :: (.pointer (some ⟨g5, 0, none⟩)) :: (.slice B7 ys7.length d7) :: (.int .i64 (ys7.length : Int)) :: (.bool false) :: (.bool false) :: (.bool false) :: (.pointer (some ⟨g, 0, none⟩)) :: (.int .i64 ((ca : Int) - (xs7.length : Int))) :: (.int .i64 (ca : Int)) :: (.pointer (some ⟨g3, 0, none⟩)) :: (.slice A7 xs7.length c7) :: (.int .i64 (xs7.length : Int)) :: (.int .i64 ((ca : Int) - (xs7.length : Int))) :: (.bool false) :: (.bool false) :: (.bool false) :: (.pointer (some ⟨h, 0, none⟩)) :: (.int .i64 ((cb : Int) - (ys7.length : Int))) :: (.int .i64 (cb : Int)) :: (.pointer (some ⟨g5, 0, none⟩)) :: (.slice B7 ys7.length d7) :: (.int .i64 (ys7.length : Int)) :: (.int .i64 ((cb : Int) - (ys7.length : Int))) :: (.bool false) :: (.bool false) :: undef :: undef :: undef :: undef :: undef :: undef :: undef :: undef :: undef :: undef :: undef :: undef :: undef :: undef :: undef :: []) k_ undef), i + 1, xs7, ys7, A7, c7, B7, d7, congrArg Fr (by kernel_rfl), rfl, by omega, by omega, hx7, hy7, hxc7, hyd7, HS⟩
      · skip
        obtain ⟨g82, W83, hg_, hw_, H_, hk_⟩ := ex_blk HS [.slice none 0 0, .int .i64 0] 30
        have hv_g82 := Nat.le_trans HK.size (Nat.le_of_eq (Eq.symm hg_))
        refine t_e2 (n := 8) 13 (.pointer (some ⟨g82, 0, none⟩)) rfl (by kernel_rfl) (by subst hg_; subst hw_; kernel_rfl) (HK.tr hk_) ?_
        replace HK := HK.tr hk_
        clear hk_
        clear hg_ hw_
        replace HS : St W (owns []) W83 [blk g82 [.slice none 0 0, .int .i64 0] 30, blk g68 [.slice none 0 0, .int .i64 0] 30, blk g [.chan (some p)] 46, chn p ca (xs.map fun n : Int => Value.int .i64 n), blk h [.chan (some q)] 46, chn q cb (ys.map fun n : Int => Value.int .i64 n), rde Ax (ci .i64 xs), rde By (ci .i64 ys), blk g3 [.slice Ax xs.length cx, .int .i64 (ca : Int)] 30, blk g5 [.slice By ys.length dy, .int .i64 (cb : Int)] 30] := H_
        clear H_
        refine t_c (n := 7) 8 (f := 6) (args := #[.pointer (some ⟨g, 0, none⟩), .pointer (some ⟨h, 0, none⟩), .agg #[.slice Ax xs.length cx, .int .i64 (ca : Int)], .agg #[.slice By ys.length dy, .int .i64 (cb : Int)], .agg #[.int .i64 ((gx acts i).1), .int .i64 ((gx acts i).2)]]) rfl (by kernel_rfl) (by kernel_rfl) (R_call #[.pointer (some ⟨g, 0, none⟩), .pointer (some ⟨h, 0, none⟩), .agg #[.slice Ax xs.length cx, .int .i64 (ca : Int)], .agg #[.slice By ys.length dy, .int .i64 (cb : Int)], .agg #[.int .i64 ((gx acts i).1), .int .i64 ((gx acts i).2)]] Try.func6 (by kernel_rfl) (by kernel_rfl) (by kernel_rfl)) ?_
        replace HS : St W (owns []) W83 [blk g [.chan (some p)] 46, chn p ca (xs.map fun n : Int => Value.int .i64 n), blk h [.chan (some q)] 46, chn q cb (ys.map fun n : Int => Value.int .i64 n), rde Ax (ci .i64 xs), rde By (ci .i64 ys), blk g82 [.slice none 0 0, .int .i64 0] 30, blk g68 [.slice none 0 0, .int .i64 0] 30, blk g3 [.slice Ax xs.length cx, .int .i64 (ca : Int)] 30, blk g5 [.slice By ys.length dy, .int .i64 (cb : Int)] 30] := HS.perm (perm_ [2, 3, 4, 5, 6, 7, 0, 1, 8, 9] (by kernel_rfl) rfl)
        refine (does_t g p ca h q cb Ax cx xs By dy ys ((gx acts i).1) ((gx acts i).2) _ _ (St.focus (F := [blk g [.chan (some p)] 46, chn p ca (xs.map fun n : Int => Value.int .i64 n), blk h [.chan (some q)] 46, chn q cb (ys.map fun n : Int => Value.int .i64 n), rde Ax (ci .i64 xs), rde By (ci .i64 ys)]) HS) (by omega) (by omega) hx hy hxc hyd).mono ?_
        rintro e W84 ⟨xs7, ys7, A7, c7, B7, d7, rfl, H_, hx7, hy7, hxc7, hyd7⟩
        have hkf_ : ∀ k_, owns [blk g [.chan (some p)] 46, chn p ca (xs.map fun n : Int => Value.int .i64 n), blk h [.chan (some q)] 46, chn q cb (ys.map fun n : Int => Value.int .i64 n), rde Ax (ci .i64 xs), rde By (ci .i64 ys)] k_ → (blk g [.chan (some p)] 46).own k_ ∨ (chn p ca (xs.map fun n : Int => Value.int .i64 n)).own k_ ∨ (blk h [.chan (some q)] 46).own k_ ∨ (chn q cb (ys.map fun n : Int => Value.int .i64 n)).own k_ ∨ (rde Ax (ci .i64 xs)).own k_ ∨ (rde By (ci .i64 ys)).own k_ := by
          intro k_ h_; obtain ⟨e_, he_, ho_⟩ := h_; simp only [List.mem_cons, List.not_mem_nil, or_false] at he_; rcases he_ with rfl | rfl | rfl | rfl | rfl | rfl <;> first | exact (.inl ho_) | exact (.inr (.inl ho_)) | exact (.inr (.inr (.inl ho_))) | exact (.inr (.inr (.inr (.inl ho_)))) | exact (.inr (.inr (.inr (.inr (.inl ho_))))) | exact (.inr (.inr (.inr (.inr (.inr ho_)))))
        refine ⟨_, rfl, HK.trans H_.kept (fun _ h_ => .inl (hkf_ _ h_)), ?_⟩
        replace HK := HK.trans H_.kept (fun _ h_ => .inl (hkf_ _ h_))
        replace HS : St W (owns []) W84 [blk g [.chan (some p)] 46, chn p ca (xs7.map fun n : Int => Value.int .i64 n), blk h [.chan (some q)] 46, chn q cb (ys7.map fun n : Int => Value.int .i64 n), rde A7 (ci .i64 xs7), rde B7 (ci .i64 ys7), blk g82 [.slice none 0 0, .int .i64 0] 30, blk g68 [.slice none 0 0, .int .i64 0] 30, blk g3 [.slice Ax xs.length cx, .int .i64 (ca : Int)] 30, blk g5 [.slice By ys.length dy, .int .i64 (cb : Int)] 30] := HS.join (F := [blk g [.chan (some p)] 46, chn p ca (xs.map fun n : Int => Value.int .i64 n), blk h [.chan (some q)] 46, chn q cb (ys.map fun n : Int => Value.int .i64 n), rde Ax (ci .i64 xs), rde By (ci .i64 ys)]) (G := [blk g [.chan (some p)] 46, chn p ca (xs7.map fun n : Int => Value.int .i64 n), blk h [.chan (some q)] 46, chn q cb (ys7.map fun n : Int => Value.int .i64 n), rde A7 (ci .i64 xs7), rde B7 (ci .i64 ys7)]) H_
        clear H_
        refine t_q (n := 6) 9 (.tuple #[.agg #[.slice A7 xs7.length c7, .int .i64 (ca : Int)], .agg #[.slice B7 ys7.length d7, .int .i64 (cb : Int)], .bool true]) rfl (by kernel_rfl) (by kernel_rfl) (fun _ _ _ h => h) (fun w' hk => (by kernel_rfl)) HK ?_
        refine t_q (n := 5) 10 (.agg #[.slice A7 xs7.length c7, .int .i64 (ca : Int)]) rfl (by kernel_rfl) (by kernel_rfl) (fun _ _ _ h => h) (fun w' hk => (by kernel_rfl)) HK ?_
        refine t_q (n := 4) 11 (.agg #[.slice B7 ys7.length d7, .int .i64 (cb : Int)]) rfl (by kernel_rfl) (by kernel_rfl) (fun _ _ _ h => h) (fun w' hk => (by kernel_rfl)) HK ?_
        refine t_q (n := 3) 12 (.bool true) rfl (by kernel_rfl) (by kernel_rfl) (fun _ _ _ h => h) (fun w' hk => (by kernel_rfl)) HK ?_
        obtain ⟨W85, hrun_, H_, hk_⟩ := ex_ks (P := Try.prog) (ty := 0) (ps := "law.go:63") (af := #[{ on := 13, ground := Go.Ground.data }, { on := 10, ground := Go.Ground.data }, { on := 8, ground := Go.Ground.chain }, { on := 0, ground := Go.Ground.phase }, { on := 1, ground := Go.Ground.phase }, { on := 2, ground := Go.Ground.phase }, { on := 3, ground := Go.Ground.phase }, { on := 4, ground := Go.Ground.phase }, { on := 5, ground := Go.Ground.phase }, { on := 6, ground := Go.Ground.phase }, { on := 7, ground := Go.Ground.phase }, { on := 8, ground := Go.Ground.phase }, { on := 9, ground := Go.Ground.phase }, { on := 10, ground := Go.Ground.phase }, { on := 11, ground := (Go.Ground.textOnly Go.Departure.lateStores) }, { on := 12, ground := (Go.Ground.textOnly Go.Departure.lateStores) }, { on := 13, ground := Go.Ground.phase }, { on := 14, ground := Go.Ground.phase }]) (gd := none) (t := 30) (x := (Go.Operand.tmp 14)) (y := (Go.Operand.tmp 103)) (v := .agg #[.slice A7 xs7.length c7, .int .i64 (ca : Int)]) HS 6 rfl (0) [.slice A7 xs7.length c7, .int .i64 (ca : Int)] (by kernel_rfl) (by kernel_rfl) (by kernel_rfl) (by kernel_rfl) (one_ (by kernel_rfl)) (Nat.le_of_ble_eq_true rfl)
        replace HK := HK.trans hk_ (fun _ h_ => .inr (Nat.le_trans hv_g82 (Nat.le_of_eq (Eq.symm h_))))
        refine t_s (n := 2) 15 rfl (by kernel_rfl) (by kernel_rfl) hrun_ HK ?_
        clear hk_ hrun_
        replace HS : St W (owns []) W85 [blk g [.chan (some p)] 46, chn p ca (xs7.map fun n : Int => Value.int .i64 n), blk h [.chan (some q)] 46, chn q cb (ys7.map fun n : Int => Value.int .i64 n), rde A7 (ci .i64 xs7), rde B7 (ci .i64 ys7), blk g82 [.slice A7 xs7.length c7, .int .i64 (ca : Int)] 30, blk g68 [.slice none 0 0, .int .i64 0] 30, blk g3 [.slice Ax xs.length cx, .int .i64 (ca : Int)] 30, blk g5 [.slice By ys.length dy, .int .i64 (cb : Int)] 30] := H_
        clear H_
        obtain ⟨W86, hrun_, H_, hk_⟩ := ex_ks (P := Try.prog) (ty := 0) (ps := "law.go:63") (af := #[{ on := 14, ground := Go.Ground.data }, { on := 11, ground := Go.Ground.data }, { on := 15, ground := Go.Ground.chain }, { on := 0, ground := Go.Ground.phase }, { on := 1, ground := Go.Ground.phase }, { on := 2, ground := Go.Ground.phase }, { on := 3, ground := Go.Ground.phase }, { on := 4, ground := Go.Ground.phase }, { on := 5, ground := Go.Ground.phase }, { on := 6, ground := Go.Ground.phase }, { on := 7, ground := Go.Ground.phase }, { on := 8, ground := Go.Ground.phase }, { on := 9, ground := Go.Ground.phase }, { on := 10, ground := Go.Ground.phase }, { on := 11, ground := Go.Ground.phase }, { on := 12, ground := (Go.Ground.textOnly Go.Departure.lateStores) }, { on := 13, ground := Go.Ground.phase }, { on := 14, ground := Go.Ground.phase }, { on := 15, ground := Go.Ground.phase }]) (gd := none) (t := 30) (x := (Go.Operand.tmp 15)) (y := (Go.Operand.tmp 104)) (v := .agg #[.slice B7 ys7.length d7, .int .i64 (cb : Int)]) HS 7 rfl (0) [.slice B7 ys7.length d7, .int .i64 (cb : Int)] (by kernel_rfl) (by kernel_rfl) (by kernel_rfl) (by kernel_rfl) (one_ (by kernel_rfl)) (Nat.le_of_ble_eq_true rfl)
        replace HK := HK.trans hk_ (fun _ h_ => .inr (Nat.le_trans hv_g68 (Nat.le_of_eq (Eq.symm h_))))
        refine t_s (n := 1) 16 rfl (by kernel_rfl) (by kernel_rfl) hrun_ HK ?_
        clear hk_ hrun_
        replace HS : St W (owns []) W86 [blk g [.chan (some p)] 46, chn p ca (xs7.map fun n : Int => Value.int .i64 n), blk h [.chan (some q)] 46, chn q cb (ys7.map fun n : Int => Value.int .i64 n), rde A7 (ci .i64 xs7), rde B7 (ci .i64 ys7), blk g82 [.slice A7 xs7.length c7, .int .i64 (ca : Int)] 30, blk g68 [.slice B7 ys7.length d7, .int .i64 (cb : Int)] 30, blk g3 [.slice Ax xs.length cx, .int .i64 (ca : Int)] 30, blk g5 [.slice By ys.length dy, .int .i64 (cb : Int)] 30] := H_
        clear H_
        refine t_q (n := 0) 17 (.bool true) rfl (by kernel_rfl) (by kernel_rfl) (fun _ _ _ h => h) (fun w' hk => (by kernel_rfl)) HK ?_
        refine t_done (by kernel_rfl) ?_
        clear HV HK
        refine x_then ?_
        refine wp_seq ?_
        refine wp_region_lit ?_
        refine ql (.agg #[.slice A7 xs7.length c7, .int .i64 (ca : Int)]) (by kernel_rfl) (R_loadN (p := ⟨g82, 0, none⟩) [.slice A7 xs7.length c7, .int .i64 (ca : Int)] (by kernel_rfl) (by kernel_rfl) (by kernel_rfl) (by kernel_rfl) (two_at (HS.cell (i := 6) (j := 0) rfl rfl) (HS.cell (i := 6) (j := 1) rfl rfl))) ?_
        refine ks (v := .agg #[.slice A7 xs7.length c7, .int .i64 (ca : Int)]) HS 8 rfl (0) [.slice A7 xs7.length c7, .int .i64 (ca : Int)] (by kernel_rfl) (by kernel_rfl) (by kernel_rfl) (by kernel_rfl) (by kernel_rfl) (one_ (by kernel_rfl)) (Nat.le_of_ble_eq_true rfl) rfl ?_
        intro W87 H_
        replace HS : St W (owns []) W87 [blk g [.chan (some p)] 46, chn p ca (xs7.map fun n : Int => Value.int .i64 n), blk h [.chan (some q)] 46, chn q cb (ys7.map fun n : Int => Value.int .i64 n), rde A7 (ci .i64 xs7), rde B7 (ci .i64 ys7), blk g82 [.slice A7 xs7.length c7, .int .i64 (ca : Int)] 30, blk g68 [.slice B7 ys7.length d7, .int .i64 (cb : Int)] 30, blk g3 [.slice A7 xs7.length c7, .int .i64 (ca : Int)] 30, blk g5 [.slice By ys.length dy, .int .i64 (cb : Int)] 30] := H_
        clear H_
        refine wpList_nil ?_
        refine x_then ?_
        refine wp_seq ?_
        refine wp_region_lit ?_
        refine ql (.agg #[.slice B7 ys7.length d7, .int .i64 (cb : Int)]) (by kernel_rfl) (R_loadN (p := ⟨g68, 0, none⟩) [.slice B7 ys7.length d7, .int .i64 (cb : Int)] (by kernel_rfl) (by kernel_rfl) (by kernel_rfl) (by kernel_rfl) (two_at (HS.cell (i := 7) (j := 0) rfl rfl) (HS.cell (i := 7) (j := 1) rfl rfl))) ?_
        refine ks (v := .agg #[.slice B7 ys7.length d7, .int .i64 (cb : Int)]) HS 9 rfl (0) [.slice B7 ys7.length d7, .int .i64 (cb : Int)] (by kernel_rfl) (by kernel_rfl) (by kernel_rfl) (by kernel_rfl) (by kernel_rfl) (one_ (by kernel_rfl)) (Nat.le_of_ble_eq_true rfl) rfl ?_
        intro W88 H_
        replace HS : St W (owns []) W88 [blk g [.chan (some p)] 46, chn p ca (xs7.map fun n : Int => Value.int .i64 n), blk h [.chan (some q)] 46, chn q cb (ys7.map fun n : Int => Value.int .i64 n), rde A7 (ci .i64 xs7), rde B7 (ci .i64 ys7), blk g82 [.slice A7 xs7.length c7, .int .i64 (ca : Int)] 30, blk g68 [.slice B7 ys7.length d7, .int .i64 (cb : Int)] 30, blk g3 [.slice A7 xs7.length c7, .int .i64 (ca : Int)] 30, blk g5 [.slice B7 ys7.length d7, .int .i64 (cb : Int)] 30] := H_
        clear H_
        refine wpList_nil ?_
        refine x_then ?_
        refine wp_seq ?_
        refine t_start HS (fun _ => False) 38 (by kernel_rfl) rfl ?_
        intro W89 H_ HD_
        clear HD_
        replace HS : St W (owns []) W89 [blk g [.chan (some p)] 46, chn p ca (xs7.map fun n : Int => Value.int .i64 n), blk h [.chan (some q)] 46, chn q cb (ys7.map fun n : Int => Value.int .i64 n), rde A7 (ci .i64 xs7), rde B7 (ci .i64 ys7), blk g82 [.slice A7 xs7.length c7, .int .i64 (ca : Int)] 30, blk g68 [.slice B7 ys7.length d7, .int .i64 (cb : Int)] 30, blk g3 [.slice A7 xs7.length c7, .int .i64 (ca : Int)] 30, blk g5 [.slice B7 ys7.length d7, .int .i64 (cb : Int)] 30] := H_
        clear H_
        have HV := HS
        have HK := Kpt.refl (fun _ => False) W89
        refine t_q (n := 37) 0 (.bool true) rfl (by kernel_rfl) (by kernel_rfl) (fun _ _ _ h => h) (fun w' hk => (by kernel_rfl)) HK ?_
        refine t_q (n := 36) 1 (.bool false) rfl (by kernel_rfl) (by kernel_rfl) (fun _ _ _ h => h) (fun w' hk => (by kernel_rfl)) HK ?_
        refine t_q (n := 35) 2 (.bool false) rfl (by kernel_rfl) (by kernel_rfl) (fun _ _ _ h => h) (fun w' hk => (by kernel_rfl)) HK ?_
        refine t_q (n := 34) 3 (.pointer (some ⟨g, 0, none⟩)) rfl (by kernel_rfl) (by kernel_rfl) (fun _ _ _ h => h) (fun w' hk => (by kernel_rfl)) HK ?_
        refine t_q (n := 33) 5 (.pointer (some ⟨g3, 0, none⟩)) rfl (by kernel_rfl) (by kernel_rfl) (fun _ _ _ h => h) (fun w' hk => (by kernel_rfl)) HK ?_
        refine t_q (n := 32) 6 (.slice A7 xs7.length c7) rfl (by kernel_rfl) (by kernel_rfl) (fun _ _ _ h => h) (fun w' hk => (R_load (p := ⟨g3, 0, none⟩) (by kernel_rfl) (by kernel_rfl) (by kernel_rfl) (hk.cell (HV.cell (i := 8) (j := 0) rfl rfl)))) HK ?_
        refine t_q (n := 31) 7 (.int .i64 (xs7.length : Int)) rfl (by kernel_rfl) (by kernel_rfl) (fun _ _ _ h => h) (fun w' hk => (by kernel_rfl)) HK ?_
        refine t_c (n := 30) 4 (f := 7) (args := #[.pointer (some ⟨g, 0, none⟩)]) rfl (by kernel_rfl) (by kernel_rfl) (R_call #[.pointer (some ⟨g, 0, none⟩)] Try.func7 (by kernel_rfl) (by kernel_rfl) (by kernel_rfl)) ?_
        refine (plen g p ca xs7 _ (HS.cell (i := 0) (j := 0) rfl rfl) (HS.get (i := 1) rfl) (by omega) (by omega)).mono ?_
        rintro e W90 ⟨rfl, H_⟩
        refine ⟨_, rfl, HK.tr H_.kept.nil, ?_⟩
        replace HK := HK.tr H_.kept.nil
        replace HS : St W (owns []) W90 [blk g [.chan (some p)] 46, chn p ca (xs7.map fun n : Int => Value.int .i64 n), blk h [.chan (some q)] 46, chn q cb (ys7.map fun n : Int => Value.int .i64 n), rde A7 (ci .i64 xs7), rde B7 (ci .i64 ys7), blk g82 [.slice A7 xs7.length c7, .int .i64 (ca : Int)] 30, blk g68 [.slice B7 ys7.length d7, .int .i64 (cb : Int)] 30, blk g3 [.slice A7 xs7.length c7, .int .i64 (ca : Int)] 30, blk g5 [.slice B7 ys7.length d7, .int .i64 (cb : Int)] 30] := HS.join (F := []) (G := []) H_
        clear H_
        refine t_q (n := 29) 8 (.bool false) rfl (by kernel_rfl) (by kernel_rfl) (fun _ _ _ h => h) (fun w' hk => (R_beq (b := ((xs7.length : Int) != (xs7.length : Int))) (by kernel_rfl) (bne_f (by omega)))) HK ?_
        refine t_q (n := 28) 9 (.bool false) rfl (by kernel_rfl) (by kernel_rfl) (fun _ _ _ h => h) (fun w' hk => (by kernel_rfl)) HK ?_
        refine t_q (n := 27) 10 (.bool false) rfl (by kernel_rfl) (by kernel_rfl) (fun _ _ _ h => h) (fun w' hk => (by kernel_rfl)) HK ?_
        refine t_q (n := 26) 11 (.pointer (some ⟨h, 0, none⟩)) rfl (by kernel_rfl) (by kernel_rfl) (fun _ _ _ h => h) (fun w' hk => (by kernel_rfl)) HK ?_
        refine t_q (n := 25) 13 (.pointer (some ⟨g5, 0, none⟩)) rfl (by kernel_rfl) (by kernel_rfl) (fun _ _ _ h => h) (fun w' hk => (by kernel_rfl)) HK ?_
        refine t_q (n := 24) 14 (.slice B7 ys7.length d7) rfl (by kernel_rfl) (by kernel_rfl) (fun _ _ _ h => h) (fun w' hk => (R_load (p := ⟨g5, 0, none⟩) (by kernel_rfl) (by kernel_rfl) (by kernel_rfl) (hk.cell (HV.cell (i := 9) (j := 0) rfl rfl)))) HK ?_
        refine t_q (n := 23) 15 (.int .i64 (ys7.length : Int)) rfl (by kernel_rfl) (by kernel_rfl) (fun _ _ _ h => h) (fun w' hk => (by kernel_rfl)) HK ?_
        refine t_c (n := 22) 12 (f := 7) (args := #[.pointer (some ⟨h, 0, none⟩)]) rfl (by kernel_rfl) (by kernel_rfl) (R_call #[.pointer (some ⟨h, 0, none⟩)] Try.func7 (by kernel_rfl) (by kernel_rfl) (by kernel_rfl)) ?_
        refine (plen h q cb ys7 _ (HS.cell (i := 2) (j := 0) rfl rfl) (HS.get (i := 3) rfl) (by omega) (by omega)).mono ?_
        rintro e W91 ⟨rfl, H_⟩
        refine ⟨_, rfl, HK.tr H_.kept.nil, ?_⟩
        replace HK := HK.tr H_.kept.nil
        replace HS : St W (owns []) W91 [blk g [.chan (some p)] 46, chn p ca (xs7.map fun n : Int => Value.int .i64 n), blk h [.chan (some q)] 46, chn q cb (ys7.map fun n : Int => Value.int .i64 n), rde A7 (ci .i64 xs7), rde B7 (ci .i64 ys7), blk g82 [.slice A7 xs7.length c7, .int .i64 (ca : Int)] 30, blk g68 [.slice B7 ys7.length d7, .int .i64 (cb : Int)] 30, blk g3 [.slice A7 xs7.length c7, .int .i64 (ca : Int)] 30, blk g5 [.slice B7 ys7.length d7, .int .i64 (cb : Int)] 30] := HS.join (F := []) (G := []) H_
        clear H_
        refine t_q (n := 21) 16 (.bool false) rfl (by kernel_rfl) (by kernel_rfl) (fun _ _ _ h => h) (fun w' hk => (R_beq (b := ((ys7.length : Int) != (ys7.length : Int))) (by kernel_rfl) (bne_f (by omega)))) HK ?_
        refine t_q (n := 20) 17 (.bool false) rfl (by kernel_rfl) (by kernel_rfl) (fun _ _ _ h => h) (fun w' hk => (by kernel_rfl)) HK ?_
        refine t_q (n := 19) 18 (.bool false) rfl (by kernel_rfl) (by kernel_rfl) (fun _ _ _ h => h) (fun w' hk => (by kernel_rfl)) HK ?_
        refine t_q (n := 18) 19 (.pointer (some ⟨g, 0, none⟩)) rfl (by kernel_rfl) (by kernel_rfl) (fun _ _ _ h => h) (fun w' hk => (by kernel_rfl)) HK ?_
        refine t_q (n := 17) 21 (.int .i64 (ca : Int)) rfl (by kernel_rfl) (by kernel_rfl) (fun _ _ _ h => h) (fun w' hk => (by kernel_rfl)) HK ?_
        refine t_q (n := 16) 22 (.pointer (some ⟨g3, 0, none⟩)) rfl (by kernel_rfl) (by kernel_rfl) (fun _ _ _ h => h) (fun w' hk => (by kernel_rfl)) HK ?_
        refine t_q (n := 15) 23 (.slice A7 xs7.length c7) rfl (by kernel_rfl) (by kernel_rfl) (fun _ _ _ h => h) (fun w' hk => (R_load (p := ⟨g3, 0, none⟩) (by kernel_rfl) (by kernel_rfl) (by kernel_rfl) (hk.cell (HV.cell (i := 8) (j := 0) rfl rfl)))) HK ?_
        refine t_q (n := 14) 24 (.int .i64 (xs7.length : Int)) rfl (by kernel_rfl) (by kernel_rfl) (fun _ _ _ h => h) (fun w' hk => (by kernel_rfl)) HK ?_
        refine t_q (n := 13) 25 (.int .i64 ((ca : Int) - (xs7.length : Int))) rfl (by kernel_rfl) (by kernel_rfl) (fun _ _ _ h => h) (fun w' hk => (R_int (by kernel_rfl) (w64 (by omega)))) HK ?_
        refine t_c (n := 12) 20 (f := 8) (args := #[.pointer (some ⟨g, 0, none⟩)]) rfl (by kernel_rfl) (by kernel_rfl) (R_call #[.pointer (some ⟨g, 0, none⟩)] Try.func8 (by kernel_rfl) (by kernel_rfl) (by kernel_rfl)) ?_
        refine (proom g p ca xs7 _ (HS.cell (i := 0) (j := 0) rfl rfl) (HS.get (i := 1) rfl) (by omega) (by omega)).mono ?_
        rintro e W92 ⟨rfl, H_⟩
        refine ⟨_, rfl, HK.tr H_.kept.nil, ?_⟩
        replace HK := HK.tr H_.kept.nil
        replace HS : St W (owns []) W92 [blk g [.chan (some p)] 46, chn p ca (xs7.map fun n : Int => Value.int .i64 n), blk h [.chan (some q)] 46, chn q cb (ys7.map fun n : Int => Value.int .i64 n), rde A7 (ci .i64 xs7), rde B7 (ci .i64 ys7), blk g82 [.slice A7 xs7.length c7, .int .i64 (ca : Int)] 30, blk g68 [.slice B7 ys7.length d7, .int .i64 (cb : Int)] 30, blk g3 [.slice A7 xs7.length c7, .int .i64 (ca : Int)] 30, blk g5 [.slice B7 ys7.length d7, .int .i64 (cb : Int)] 30] := HS.join (F := []) (G := []) H_
        clear H_
        refine t_q (n := 11) 26 (.bool false) rfl (by kernel_rfl) (by kernel_rfl) (fun _ _ _ h => h) (fun w' hk => (R_beq (b := ((ca : Int) - (xs7.length : Int) != (ca : Int) - (xs7.length : Int))) (by kernel_rfl) (bne_f (by omega)))) HK ?_
        refine t_q (n := 10) 27 (.bool false) rfl (by kernel_rfl) (by kernel_rfl) (fun _ _ _ h => h) (fun w' hk => (by kernel_rfl)) HK ?_
        refine t_q (n := 9) 28 (.bool false) rfl (by kernel_rfl) (by kernel_rfl) (fun _ _ _ h => h) (fun w' hk => (by kernel_rfl)) HK ?_
        refine t_q (n := 8) 29 (.pointer (some ⟨h, 0, none⟩)) rfl (by kernel_rfl) (by kernel_rfl) (fun _ _ _ h => h) (fun w' hk => (by kernel_rfl)) HK ?_
        refine t_q (n := 7) 31 (.int .i64 (cb : Int)) rfl (by kernel_rfl) (by kernel_rfl) (fun _ _ _ h => h) (fun w' hk => (by kernel_rfl)) HK ?_
        refine t_q (n := 6) 32 (.pointer (some ⟨g5, 0, none⟩)) rfl (by kernel_rfl) (by kernel_rfl) (fun _ _ _ h => h) (fun w' hk => (by kernel_rfl)) HK ?_
        refine t_q (n := 5) 33 (.slice B7 ys7.length d7) rfl (by kernel_rfl) (by kernel_rfl) (fun _ _ _ h => h) (fun w' hk => (R_load (p := ⟨g5, 0, none⟩) (by kernel_rfl) (by kernel_rfl) (by kernel_rfl) (hk.cell (HV.cell (i := 9) (j := 0) rfl rfl)))) HK ?_
        refine t_q (n := 4) 34 (.int .i64 (ys7.length : Int)) rfl (by kernel_rfl) (by kernel_rfl) (fun _ _ _ h => h) (fun w' hk => (by kernel_rfl)) HK ?_
        refine t_q (n := 3) 35 (.int .i64 ((cb : Int) - (ys7.length : Int))) rfl (by kernel_rfl) (by kernel_rfl) (fun _ _ _ h => h) (fun w' hk => (R_int (by kernel_rfl) (w64 (by omega)))) HK ?_
        refine t_c (n := 2) 30 (f := 8) (args := #[.pointer (some ⟨h, 0, none⟩)]) rfl (by kernel_rfl) (by kernel_rfl) (R_call #[.pointer (some ⟨h, 0, none⟩)] Try.func8 (by kernel_rfl) (by kernel_rfl) (by kernel_rfl)) ?_
        refine (proom h q cb ys7 _ (HS.cell (i := 2) (j := 0) rfl rfl) (HS.get (i := 3) rfl) (by omega) (by omega)).mono ?_
        rintro e W93 ⟨rfl, H_⟩
        refine ⟨_, rfl, HK.tr H_.kept.nil, ?_⟩
        replace HK := HK.tr H_.kept.nil
        replace HS : St W (owns []) W93 [blk g [.chan (some p)] 46, chn p ca (xs7.map fun n : Int => Value.int .i64 n), blk h [.chan (some q)] 46, chn q cb (ys7.map fun n : Int => Value.int .i64 n), rde A7 (ci .i64 xs7), rde B7 (ci .i64 ys7), blk g82 [.slice A7 xs7.length c7, .int .i64 (ca : Int)] 30, blk g68 [.slice B7 ys7.length d7, .int .i64 (cb : Int)] 30, blk g3 [.slice A7 xs7.length c7, .int .i64 (ca : Int)] 30, blk g5 [.slice B7 ys7.length d7, .int .i64 (cb : Int)] 30] := HS.join (F := []) (G := []) H_
        clear H_
        refine t_q (n := 1) 36 (.bool false) rfl (by kernel_rfl) (by kernel_rfl) (fun _ _ _ h => h) (fun w' hk => (R_beq (b := ((cb : Int) - (ys7.length : Int) != (cb : Int) - (ys7.length : Int))) (by kernel_rfl) (bne_f (by omega)))) HK ?_
        refine t_q (n := 0) 37 (.bool false) rfl (by kernel_rfl) (by kernel_rfl) (fun _ _ _ h => h) (fun w' hk => (by kernel_rfl)) HK ?_
        refine t_done (by kernel_rfl) ?_
        clear HV HK
        refine x_then ?_
        refine wp_cond_false (by kernel_rfl) ?_
        refine wp_skip ?_
        refine x_inb ?_
        refine x_then ?_
        refine wp_region_lit ?_
        refine ql (.int .i64 i) (by kernel_rfl) (by kernel_rfl) ?_
        refine ql (.int .i64 (i + 1)) (by kernel_rfl) (R_int (by kernel_rfl) (w64 (by omega))) ?_
        refine ql (.int .i64 (i + 1)) (by kernel_rfl) (by kernel_rfl) ?_
        refine wpList_nil ?_
        replace HS : St W (owns []) W93 [blk g [.chan (some p)] 46, chn p ca (xs7.map fun n : Int => Value.int .i64 n), blk h [.chan (some q)] 46, chn q cb (ys7.map fun n : Int => Value.int .i64 n), rde A7 (ci .i64 xs7), rde B7 (ci .i64 ys7), blk g3 [.slice A7 xs7.length c7, .int .i64 (ca : Int)] 30, blk g5 [.slice B7 ys7.length d7, .int .i64 (cb : Int)] 30] := St.tail (F := [blk g82 [.slice A7 xs7.length c7, .int .i64 (ca : Int)] 30, blk g68 [.slice B7 ys7.length d7, .int .i64 (cb : Int)] 30]) (HS.perm (perm_ [6, 7, 0, 1, 2, 3, 4, 5, 8, 9] (by kernel_rfl) rfl))
        refine x_then ?_
        exact ⟨acts.length - (i + 1).toNat, by omega, (fun k_ : Nat => List.getD ((.int .i64 (ca : Int)) :: (.int .i64 (cb : Int)) :: (.slice (some ad14) acts.length e) :: undef :: undef :: undef :: ((J9 6)) :: (.pointer (some ⟨g, 0, none⟩)) :: (.int .i64 0) :: (.pointer (some ⟨h, 0, none⟩)) :: (.int .i64 0) :: (.pointer (some ⟨g3, 0, none⟩)) :: (.pointer (some ⟨g5, 0, none⟩)) :: (.int .i64 (i + 1)) :: (.pointer (some ⟨g82, 0, none⟩)) :: (.pointer (some ⟨g68, 0, none⟩)) :: (.bool true) :: (.int .i64 (ca : Int)) :: (.bool false) :: (.bool false) :: undef :: undef :: (.bool false) :: (.bool false) :: (.int .i64 (cb : Int)) :: (.bool false) :: (.bool false) :: (.bool false) :: (.int .i64 (cb : Int)) :: (.bool false) :: (.bool false) :: (.bool false) :: (.slice (some ad14) acts.length e) :: (.int .i64 (acts.length : Int)) :: (.bool false) :: (.bool false) :: undef :: (.tuple #[.pointer (some ⟨g, 0, none⟩), .int .i64 0]) :: (.int .i64 (ca : Int)) :: (.tuple #[.pointer (some ⟨g, 0, none⟩), .int .i64 0]) :: (.pointer (some ⟨g, 0, none⟩)) :: (.int .i64 0) :: (.tuple #[.pointer (some ⟨h, 0, none⟩), .int .i64 0]) :: (.int .i64 (cb : Int)) :: (.tuple #[.pointer (some ⟨h, 0, none⟩), .int .i64 0]) :: (.pointer (some ⟨h, 0, none⟩)) :: (.int .i64 0) :: (.int .i64 (ca : Int)) :: (.bool false) :: undef :: undef :: undef :: undef :: undef :: undef :: undef :: undef :: undef :: (.int .i64 (ca : Int)) :: (.bool false) :: undef :: undef :: undef :: undef :: undef :: undef :: undef :: undef :: undef :: (.pointer (some ⟨g, 0, none⟩)) :: (.bool false) :: (.bool false) :: (.pointer (some ⟨h, 0, none⟩)) :: (.bool false) :: (.bool false) :: (.bool false) :: (.int .i64 0) :: (.bool false) :: (.bool false) :: (.bool false) :: (.int .i64 0) :: (.bool false) :: (.bool false) :: (.int .i64 (ca : Int)) :: (.agg #[.slice none 0 0, .int .i64 (ca : Int)]) :: (.int .i64 (cb : Int)) :: (.agg #[.slice none 0 0, .int .i64 (cb : Int)]) :: (.int .i64 i) :: (.slice (some ad14) acts.length e) :: (.int .i64 (acts.length : Int)) :: (.bool true) :: (.int .i64 i) :: (.int .i64 (i + 1)) :: (.tuple #[.agg #[.slice A7 xs7.length c7, .int .i64 (ca : Int)], .agg #[.slice B7 ys7.length d7, .int .i64 (cb : Int)], .bool true]) :: (.pointer (some ⟨g, 0, none⟩)) :: (.pointer (some ⟨h, 0, none⟩)) :: (.agg #[.slice Ax xs.length cx, .int .i64 (ca : Int)]) :: (.agg #[.slice By ys.length dy, .int .i64 (cb : Int)]) :: (.slice (some ad14) acts.length e) :: (.int .i64 i) :: (.pointer (some (ad14.add (i.toNat * 2)))) :: (.agg #[.int .i64 ((gx acts i).1), .int .i64 ((gx acts i).2)]) :: (.tuple #[.agg #[.slice A7 xs7.length c7, .int .i64 (ca : Int)], .agg #[.slice B7 ys7.length d7, .int .i64 (cb : Int)], .bool true]) :: (.agg #[.slice A7 xs7.length c7, .int .i64 (ca : Int)]) :: (.agg #[.slice B7 ys7.length d7, .int .i64 (cb : Int)]) :: (.bool true) :: (.agg #[.slice A7 xs7.length c7, .int .i64 (ca : Int)]) :: (.agg #[.slice B7 ys7.length d7, .int .i64 (cb : Int)]) :: (.bool true) :: (.bool false) :: (.bool false) :: (.pointer (some ⟨g, 0, none⟩)) :: (.int .i64 (xs7.length : Int)) :: (.pointer (some ⟨g3, 0, none⟩)) :: (.slice A7 xs7.length c7) :: (.int .i64 (xs7.length : Int)) :: (.bool false) :: (.bool false) :: (.bool false) :: (.pointer (some ⟨h, 0, none⟩)) :: (.int .i64 (ys7.length : Int)) :: (.pointer (some ⟨g5, 0, none⟩)) :: (.slice B7 ys7.length d7) :: (.int .i64 (ys7.length : Int)) :: (.bool false) :: (.bool false) :: (.bool false) :: (.pointer (some ⟨g, 0, none⟩)) :: (.int .i64 ((ca : Int) - (xs7.length : Int))) :: (.int .i64 (ca : Int)) :: (.pointer (some ⟨g3, 0, none⟩)) :: (.slice A7 xs7.length c7) :: (.int .i64 (xs7.length : Int)) :: (.int .i64 ((ca : Int) - (xs7.length : Int))) :: (.bool false) :: (.bool false) :: (.bool false) :: (.pointer (some ⟨h, 0, none⟩)) :: (.int .i64 ((cb : Int) - (ys7.length : Int))) :: (.int .i64 (cb : Int)) :: (.pointer (some ⟨g5, 0, none⟩)) :: (.slice B7 ys7.length d7) :: (.int .i64 (ys7.length : Int)) :: (.int .i64 ((cb : Int) - (ys7.length : Int))) :: (.bool false) :: (.bool false) :: undef :: undef :: undef :: undef :: undef :: undef :: undef :: undef :: undef :: undef :: undef :: undef :: undef :: undef :: undef :: []) k_ undef), i + 1, xs7, ys7, A7, c7, B7, d7, congrArg Fr (by kernel_rfl), rfl, by omega, by omega, hx7, hy7, hxc7, hyd7, HS⟩
  · skip
    refine ql (.bool false) (by kernel_rfl) (R_nbool (p := i < (acts.length : Int)) (by kernel_rfl) (hc12)) ?_
    refine wpList_nil ?_
    refine x_then ?_
    refine wp_cond_false (by kernel_rfl) ?_
    refine wp_exit ?_
    refine x_thenE ?_
    refine x_thenE ?_
    refine x_hit ?_
    refine x_then ?_
    refine wp_seq ?_
    refine t_start HS (fun k_ => (blk g [.chan (some p)] 46).own k_ ∨ (chn p ca (xs.map fun n : Int => Value.int .i64 n)).own k_) 16 (by kernel_rfl) rfl ?_
    intro W94 H_ HD_
    clear HD_
    replace HS : St W (owns []) W94 [blk g [.chan (some p)] 46, chn p ca (xs.map fun n : Int => Value.int .i64 n), blk h [.chan (some q)] 46, chn q cb (ys.map fun n : Int => Value.int .i64 n), rde Ax (ci .i64 xs), rde By (ci .i64 ys), blk g3 [.slice Ax xs.length cx, .int .i64 (ca : Int)] 30, blk g5 [.slice By ys.length dy, .int .i64 (cb : Int)] 30] := H_
    clear H_
    have HV := HS
    have HK := Kpt.refl (fun k_ => (blk g [.chan (some p)] 46).own k_ ∨ (chn p ca (xs.map fun n : Int => Value.int .i64 n)).own k_) W94
    refine t_q (n := 15) 0 (.pointer (some ⟨g, 0, none⟩)) rfl (by kernel_rfl) (by kernel_rfl) (fun _ _ _ h => h) (fun w' hk => (by kernel_rfl)) HK ?_
    refine t_q (n := 14) 1 (.pointer (some ⟨g, 0, none⟩)) rfl (by kernel_rfl) (by kernel_rfl) (fun _ _ _ h => h) (fun w' hk => (by kernel_rfl)) HK ?_
    refine t_c (n := 13) 2 (f := 9) (args := #[.pointer (some ⟨g, 0, none⟩), .pointer (some ⟨g, 0, none⟩)]) rfl (by kernel_rfl) (by kernel_rfl) (R_call #[.pointer (some ⟨g, 0, none⟩), .pointer (some ⟨g, 0, none⟩)] Try.func9 (by kernel_rfl) (by kernel_rfl) (by kernel_rfl)) ?_
    refine (pmove_same g p ca xs _ _ (St.focus (F := [blk g [.chan (some p)] 46, chn p ca (xs.map fun n : Int => Value.int .i64 n)]) HS)).mono ?_
    rintro e W95 ⟨rfl, H_⟩
    have hkf_ : ∀ k_, owns [blk g [.chan (some p)] 46, chn p ca (xs.map fun n : Int => Value.int .i64 n)] k_ → (blk g [.chan (some p)] 46).own k_ ∨ (chn p ca (xs.map fun n : Int => Value.int .i64 n)).own k_ := by
      intro k_ h_; obtain ⟨e_, he_, ho_⟩ := h_; simp only [List.mem_cons, List.not_mem_nil, or_false] at he_; rcases he_ with rfl | rfl <;> first | exact (.inl ho_) | exact (.inr ho_)
    refine ⟨_, rfl, HK.trans H_.kept (fun _ h_ => .inl (hkf_ _ h_)), ?_⟩
    replace HK := HK.trans H_.kept (fun _ h_ => .inl (hkf_ _ h_))
    replace HS : St W (owns []) W95 [blk g [.chan (some p)] 46, chn p ca (xs.map fun n : Int => Value.int .i64 n), blk h [.chan (some q)] 46, chn q cb (ys.map fun n : Int => Value.int .i64 n), rde Ax (ci .i64 xs), rde By (ci .i64 ys), blk g3 [.slice Ax xs.length cx, .int .i64 (ca : Int)] 30, blk g5 [.slice By ys.length dy, .int .i64 (cb : Int)] 30] := HS.join (F := [blk g [.chan (some p)] 46, chn p ca (xs.map fun n : Int => Value.int .i64 n)]) (G := [blk g [.chan (some p)] 46, chn p ca (xs.map fun n : Int => Value.int .i64 n)]) H_
    clear H_
    refine t_q (n := 12) 3 (.bool true) rfl (by kernel_rfl) (by kernel_rfl) (fun _ _ _ h => h) (fun w' hk => (R_beq (b := ((0 : Int) == 0)) (by kernel_rfl) (by decide))) HK ?_
    refine t_q (n := 11) 4 (.bool true) rfl (by kernel_rfl) (by kernel_rfl) (fun _ _ _ h => h) (fun w' hk => (by kernel_rfl)) HK ?_
    refine t_q (n := 10) 5 (.pointer (some ⟨g, 0, none⟩)) rfl (by kernel_rfl) (by kernel_rfl) (fun _ _ _ h => h) (fun w' hk => (by kernel_rfl)) HK ?_
    refine t_q (n := 9) 7 (.pointer (some ⟨g3, 0, none⟩)) rfl (by kernel_rfl) (by kernel_rfl) (fun _ _ _ h => h) (fun w' hk => (by kernel_rfl)) HK ?_
    refine t_q (n := 8) 8 (.slice Ax xs.length cx) rfl (by kernel_rfl) (by kernel_rfl) (fun _ _ _ h => h) (fun w' hk => (R_load (p := ⟨g3, 0, none⟩) (by kernel_rfl) (by kernel_rfl) (by kernel_rfl) (hk.cellN (fun h_ => h_.elim (HV.sepB (a := 6) (b := 0) (by decide) rfl rfl) (HV.sepB (a := 6) (b := 1) (by decide) rfl rfl)) (HV.cell (i := 6) (j := 0) rfl rfl)))) HK ?_
    refine t_q (n := 7) 9 (.int .i64 (xs.length : Int)) rfl (by kernel_rfl) (by kernel_rfl) (fun _ _ _ h => h) (fun w' hk => (by kernel_rfl)) HK ?_
    refine t_c (n := 6) 6 (f := 7) (args := #[.pointer (some ⟨g, 0, none⟩)]) rfl (by kernel_rfl) (by kernel_rfl) (R_call #[.pointer (some ⟨g, 0, none⟩)] Try.func7 (by kernel_rfl) (by kernel_rfl) (by kernel_rfl)) ?_
    refine (plen g p ca xs _ (HS.cell (i := 0) (j := 0) rfl rfl) (HS.get (i := 1) rfl) (by omega) (by omega)).mono ?_
    rintro e W96 ⟨rfl, H_⟩
    refine ⟨_, rfl, HK.tr H_.kept.nil, ?_⟩
    replace HK := HK.tr H_.kept.nil
    replace HS : St W (owns []) W96 [blk g [.chan (some p)] 46, chn p ca (xs.map fun n : Int => Value.int .i64 n), blk h [.chan (some q)] 46, chn q cb (ys.map fun n : Int => Value.int .i64 n), rde Ax (ci .i64 xs), rde By (ci .i64 ys), blk g3 [.slice Ax xs.length cx, .int .i64 (ca : Int)] 30, blk g5 [.slice By ys.length dy, .int .i64 (cb : Int)] 30] := HS.join (F := []) (G := []) H_
    clear H_
    refine t_q (n := 5) 10 (.bool true) rfl (by kernel_rfl) (by kernel_rfl) (fun _ _ _ h => h) (fun w' hk => (R_beq (b := ((xs.length : Int) == (xs.length : Int))) (by kernel_rfl) (beq_t (by omega)))) HK ?_
    refine t_q (n := 4) 11 (.bool true) rfl (by kernel_rfl) (by kernel_rfl) (fun _ _ _ h => h) (fun w' hk => (by kernel_rfl)) HK ?_
    refine t_q (n := 3) 12 (.bool true) rfl (by kernel_rfl) (by kernel_rfl) (fun _ _ _ h => h) (fun w' hk => (by kernel_rfl)) HK ?_
    refine t_c (n := 2) 13 (f := 4) (args := #[]) rfl (by kernel_rfl) (by kernel_rfl) (R_call #[] Try.func4 (by kernel_rfl) (by kernel_rfl) (by kernel_rfl)) ?_
    refine (awake39 _).mono ?_
    rintro e W97 ⟨rfl, H_⟩
    refine ⟨_, rfl, HK.tr H_.kept.nil, ?_⟩
    replace HK := HK.tr H_.kept.nil
    replace HS : St W (owns []) W97 [blk g [.chan (some p)] 46, chn p ca (xs.map fun n : Int => Value.int .i64 n), blk h [.chan (some q)] 46, chn q cb (ys.map fun n : Int => Value.int .i64 n), rde Ax (ci .i64 xs), rde By (ci .i64 ys), blk g3 [.slice Ax xs.length cx, .int .i64 (ca : Int)] 30, blk g5 [.slice By ys.length dy, .int .i64 (cb : Int)] 30] := HS.join (F := []) (G := []) H_
    clear H_
    refine t_q (n := 1) 14 (.bool true) rfl (by kernel_rfl) (by kernel_rfl) (fun _ _ _ h => h) (fun w' hk => (by kernel_rfl)) HK ?_
    refine t_q (n := 0) 15 (.bool true) rfl (by kernel_rfl) (by kernel_rfl) (fun _ _ _ h => h) (fun w' hk => (by kernel_rfl)) HK ?_
    refine t_done (by kernel_rfl) ?_
    clear HV HK
    refine x_then ?_
    refine wp_ret ?_
    refine ret_ (.bool true) (by kernel_rfl) ?_
    exact ⟨rfl, HS.tail (F := [blk g [.chan (some p)] 46, chn p ca (xs.map fun n : Int => Value.int .i64 n), blk h [.chan (some q)] 46, chn q cb (ys.map fun n : Int => Value.int .i64 n), rde Ax (ci .i64 xs), rde By (ci .i64 ys), blk g3 [.slice Ax xs.length cx, .int .i64 (ca : Int)] 30, blk g5 [.slice By ys.length dy, .int .i64 (cb : Int)] 30])⟩


set_option maxRecDepth 100000 in
set_option maxHeartbeats 1000000 in
theorem pp_other (a b : Int) (L : Option Addr) (e k : Nat) (W : World) (hno : ¬ (1 ≤ a ∧ a ≤ 1000 ∧ 1 ≤ b ∧ b ≤ 1000 ∧ k ≤ 60)) : Calls Try.prog 3 #[.int .i64 a, .int .i64 b, .slice L k e] W fun e W' => e = .returned (.bool true) ∧ St W (owns []) W' [] := by
  have HS : St W (owns []) W [] := St.start W _
  refine calls_enter ((.int .i64 a) :: (.int .i64 b) :: (.slice L k e) :: undef :: undef :: undef :: undef :: undef :: undef :: undef :: undef :: undef :: undef :: undef :: undef :: undef :: undef :: undef :: undef :: undef :: undef :: undef :: undef :: undef :: undef :: undef :: undef :: undef :: undef :: undef :: undef :: undef :: undef :: undef :: undef :: undef :: undef :: undef :: undef :: undef :: undef :: undef :: undef :: undef :: undef :: undef :: undef :: undef :: undef :: undef :: undef :: undef :: undef :: undef :: undef :: undef :: undef :: undef :: undef :: undef :: undef :: undef :: undef :: undef :: undef :: undef :: undef :: undef :: undef :: undef :: undef :: undef :: undef :: undef :: undef :: undef :: undef :: undef :: undef :: undef :: undef :: undef :: undef :: undef :: undef :: undef :: undef :: undef :: undef :: undef :: undef :: undef :: undef :: undef :: undef :: undef :: undef :: undef :: undef :: undef :: undef :: undef :: undef :: undef :: undef :: undef :: undef :: undef :: undef :: undef :: undef :: undef :: undef :: undef :: undef :: undef :: undef :: undef :: undef :: undef :: undef :: undef :: undef :: undef :: undef :: undef :: undef :: undef :: undef :: undef :: undef :: undef :: undef :: undef :: undef :: undef :: undef :: undef :: undef :: undef :: undef :: undef :: undef :: undef :: undef :: undef :: undef :: undef :: undef :: undef :: undef :: undef :: undef :: undef :: undef :: undef :: undef :: undef :: undef :: undef :: undef :: []) Try.func3 rfl (by kernel_rfl) ?_
  refine wp_seq ?_
  refine wp_region_lit ?_
  refine ql (.bool false) (by kernel_rfl) (by kernel_rfl) ?_
  refine wpList_nil ?_
  refine x_then ?_
  refine wp_seq ?_
  refine wp_seq ?_
  refine wp_region_lit ?_
  refine ql (.int .i64 a) (by kernel_rfl) (by kernel_rfl) ?_
  by_cases hc1 : a > (1000 : Int)
  · skip
    refine ql (.bool true) (by kernel_rfl) (R_bool (p := a > (1000 : Int)) (by kernel_rfl) (hc1)) ?_
    refine ql (.bool true) (by kernel_rfl) (by kernel_rfl) ?_
    refine ql (.int .i64 a) (by kernel_rfl) (by kernel_rfl) ?_
    by_cases hc2 : a ≤ (65536 : Int)
    · skip
      refine ql (.bool true) (by kernel_rfl) (R_bool (p := a ≤ (65536 : Int)) (by kernel_rfl) (hc2)) ?_
      refine ql (.bool true) (by kernel_rfl) (by kernel_rfl) ?_
      refine ql (.bool true) (by kernel_rfl) (by kernel_rfl) ?_
      refine qln (by kernel_rfl) ?_
      refine qln (by kernel_rfl) ?_
      refine ql (.bool true) (by kernel_rfl) (by kernel_rfl) ?_
      refine ql (.bool true) (by kernel_rfl) (by kernel_rfl) ?_
      refine qln (by kernel_rfl) ?_
      refine qln (by kernel_rfl) ?_
      refine ql (.bool true) (by kernel_rfl) (by kernel_rfl) ?_
      refine ql (.bool true) (by kernel_rfl) (by kernel_rfl) ?_
      refine qln (by kernel_rfl) ?_
      refine qln (by kernel_rfl) ?_
      refine qln (by kernel_rfl) ?_
      refine ql (.bool true) (by kernel_rfl) (by kernel_rfl) ?_
      refine wpList_nil ?_
      refine x_then ?_
      refine wp_cond_true (by kernel_rfl) ?_
      refine wp_seq ?_
      refine wp_region_lit ?_
      refine qc (f := 4) (args := #[]) (by kernel_rfl) (R_call #[] Try.func4 (by kernel_rfl) (by kernel_rfl) (by kernel_rfl)) ?_
      refine (awake39 _).mono ?_
      rintro e W3 ⟨rfl, H_⟩
      refine ⟨_, rfl, ?_⟩
      replace HS : St W (owns []) W3 [] := HS.join (F := []) (G := []) H_
      clear H_
      refine ql (.bool true) (by kernel_rfl) (by kernel_rfl) ?_
      refine wpList_nil ?_
      refine x_then ?_
      refine wp_ret ?_
      refine x_thenR ?_
      refine ret_ (.bool true) (by kernel_rfl) ?_
      exact ⟨rfl, HS.tail (F := [])⟩
    · skip
      refine ql (.bool false) (by kernel_rfl) (R_nbool (p := a ≤ (65536 : Int)) (by kernel_rfl) (hc2)) ?_
      refine ql (.bool false) (by kernel_rfl) (by kernel_rfl) ?_
      refine ql (.bool false) (by kernel_rfl) (by kernel_rfl) ?_
      refine ql (.int .i64 b) (by kernel_rfl) (by kernel_rfl) ?_
      by_cases hc4 : b < (1 : Int)
      · skip
        refine ql (.bool true) (by kernel_rfl) (R_bool (p := b < (1 : Int)) (by kernel_rfl) (hc4)) ?_
        refine ql (.bool true) (by kernel_rfl) (by kernel_rfl) ?_
        refine ql (.bool true) (by kernel_rfl) (by kernel_rfl) ?_
        refine qln (by kernel_rfl) ?_
        refine qln (by kernel_rfl) ?_
        refine ql (.bool true) (by kernel_rfl) (by kernel_rfl) ?_
        refine ql (.bool true) (by kernel_rfl) (by kernel_rfl) ?_
        refine qln (by kernel_rfl) ?_
        refine qln (by kernel_rfl) ?_
        refine qln (by kernel_rfl) ?_
        refine ql (.bool true) (by kernel_rfl) (by kernel_rfl) ?_
        refine wpList_nil ?_
        refine x_then ?_
        refine wp_cond_true (by kernel_rfl) ?_
        refine wp_seq ?_
        refine wp_region_lit ?_
        refine qc (f := 4) (args := #[]) (by kernel_rfl) (R_call #[] Try.func4 (by kernel_rfl) (by kernel_rfl) (by kernel_rfl)) ?_
        refine (awake39 _).mono ?_
        rintro e W5 ⟨rfl, H_⟩
        refine ⟨_, rfl, ?_⟩
        replace HS : St W (owns []) W5 [] := HS.join (F := []) (G := []) H_
        clear H_
        refine ql (.bool true) (by kernel_rfl) (by kernel_rfl) ?_
        refine wpList_nil ?_
        refine x_then ?_
        refine wp_ret ?_
        refine x_thenR ?_
        refine ret_ (.bool true) (by kernel_rfl) ?_
        exact ⟨rfl, HS.tail (F := [])⟩
      · skip
        refine ql (.bool false) (by kernel_rfl) (R_nbool (p := b < (1 : Int)) (by kernel_rfl) (hc4)) ?_
        refine ql (.bool false) (by kernel_rfl) (by kernel_rfl) ?_
        refine ql (.bool false) (by kernel_rfl) (by kernel_rfl) ?_
        refine ql (.int .i64 b) (by kernel_rfl) (by kernel_rfl) ?_
        by_cases hc6 : b > (1000 : Int)
        · skip
          refine ql (.bool true) (by kernel_rfl) (R_bool (p := b > (1000 : Int)) (by kernel_rfl) (hc6)) ?_
          refine ql (.bool true) (by kernel_rfl) (by kernel_rfl) ?_
          refine ql (.bool true) (by kernel_rfl) (by kernel_rfl) ?_
          refine qln (by kernel_rfl) ?_
          refine qln (by kernel_rfl) ?_
          refine qln (by kernel_rfl) ?_
          refine ql (.bool true) (by kernel_rfl) (by kernel_rfl) ?_
          refine wpList_nil ?_
          refine x_then ?_
          refine wp_cond_true (by kernel_rfl) ?_
          refine wp_seq ?_
          refine wp_region_lit ?_
          refine qc (f := 4) (args := #[]) (by kernel_rfl) (R_call #[] Try.func4 (by kernel_rfl) (by kernel_rfl) (by kernel_rfl)) ?_
          refine (awake39 _).mono ?_
          rintro e W7 ⟨rfl, H_⟩
          refine ⟨_, rfl, ?_⟩
          replace HS : St W (owns []) W7 [] := HS.join (F := []) (G := []) H_
          clear H_
          refine ql (.bool true) (by kernel_rfl) (by kernel_rfl) ?_
          refine wpList_nil ?_
          refine x_then ?_
          refine wp_ret ?_
          refine x_thenR ?_
          refine ret_ (.bool true) (by kernel_rfl) ?_
          exact ⟨rfl, HS.tail (F := [])⟩
        · skip
          refine ql (.bool false) (by kernel_rfl) (R_nbool (p := b > (1000 : Int)) (by kernel_rfl) (hc6)) ?_
          refine ql (.bool false) (by kernel_rfl) (by kernel_rfl) ?_
          refine ql (.bool false) (by kernel_rfl) (by kernel_rfl) ?_
          refine ql (.slice L k e) (by kernel_rfl) (by kernel_rfl) ?_
          refine ql (.int .i64 (k : Int)) (by kernel_rfl) (by kernel_rfl) ?_
          by_cases hc8 : (k : Int) > (60 : Int)
          · skip
            refine ql (.bool true) (by kernel_rfl) (R_bool (p := (k : Int) > (60 : Int)) (by kernel_rfl) (hc8)) ?_
            refine ql (.bool true) (by kernel_rfl) (by kernel_rfl) ?_
            refine wpList_nil ?_
            refine x_then ?_
            refine wp_cond_true (by kernel_rfl) ?_
            refine wp_seq ?_
            refine wp_region_lit ?_
            refine qc (f := 4) (args := #[]) (by kernel_rfl) (R_call #[] Try.func4 (by kernel_rfl) (by kernel_rfl) (by kernel_rfl)) ?_
            refine (awake39 _).mono ?_
            rintro e W9 ⟨rfl, H_⟩
            refine ⟨_, rfl, ?_⟩
            replace HS : St W (owns []) W9 [] := HS.join (F := []) (G := []) H_
            clear H_
            refine ql (.bool true) (by kernel_rfl) (by kernel_rfl) ?_
            refine wpList_nil ?_
            refine x_then ?_
            refine wp_ret ?_
            refine x_thenR ?_
            refine ret_ (.bool true) (by kernel_rfl) ?_
            exact ⟨rfl, HS.tail (F := [])⟩
          · skip
            refine ql (.bool false) (by kernel_rfl) (R_nbool (p := (k : Int) > (60 : Int)) (by kernel_rfl) (hc8)) ?_
            refine ql (.bool false) (by kernel_rfl) (by kernel_rfl) ?_
            refine wpList_nil ?_
            refine x_then ?_
            refine wp_cond_false (by kernel_rfl) ?_
            refine wp_skip ?_
            refine x_then ?_
            refine wp_seq ?_
            refine wp_region_lit ?_
            refine ql (.int .i64 a) (by kernel_rfl) (by kernel_rfl) ?_
            refine qc (f := 5) (args := #[.int .i64 a]) (by kernel_rfl) (R_call #[.int .i64 a] Try.func5 (by kernel_rfl) (by kernel_rfl) (by kernel_rfl)) ?_
            by_cases ha1 : a < 1
            · skip
              refine (pnew_arg a _ (by omega)).mono ?_
              rintro e W10 ⟨rfl, H_⟩
              refine ⟨_, rfl, ?_⟩
              replace HS : St W (owns []) W10 [] := HS.join (F := []) (G := []) H_
              clear H_
              refine ql (.tuple #[.pointer none, .int .i64 2]) (by kernel_rfl) (by kernel_rfl) ?_
              refine ql (.pointer none) (by kernel_rfl) (by kernel_rfl) ?_
              refine ql (.int .i64 2) (by kernel_rfl) (by kernel_rfl) ?_
              refine ql (.pointer none) (by kernel_rfl) (by kernel_rfl) ?_
              refine ql (.int .i64 2) (by kernel_rfl) (by kernel_rfl) ?_
              refine wpList_nil ?_
              refine x_then ?_
              refine wp_seq ?_
              refine wp_region_lit ?_
              refine ql (.int .i64 b) (by kernel_rfl) (by kernel_rfl) ?_
              refine qc (f := 5) (args := #[.int .i64 b]) (by kernel_rfl) (R_call #[.int .i64 b] Try.func5 (by kernel_rfl) (by kernel_rfl) (by kernel_rfl)) ?_
              refine (pnew_okI b _ (by omega) (by omega)).mono ?_
              rintro e W11 ⟨h, q, rfl, H_⟩
              refine ⟨_, rfl, ?_⟩
              replace HS : St W (owns []) W11 [blk h [.chan (some q)] 46, chn q b.toNat (([] : List Int).map fun n : Int => Value.int .i64 n)] := HS.join (F := []) (G := [blk h [.chan (some q)] 46, chn q b.toNat (([] : List Int).map fun n : Int => Value.int .i64 n)]) H_
              clear H_
              refine ql (.tuple #[.pointer (some ⟨h, 0, none⟩), .int .i64 0]) (by kernel_rfl) (by kernel_rfl) ?_
              refine ql (.pointer (some ⟨h, 0, none⟩)) (by kernel_rfl) (by kernel_rfl) ?_
              refine ql (.int .i64 0) (by kernel_rfl) (by kernel_rfl) ?_
              refine ql (.pointer (some ⟨h, 0, none⟩)) (by kernel_rfl) (by kernel_rfl) ?_
              refine ql (.int .i64 0) (by kernel_rfl) (by kernel_rfl) ?_
              refine wpList_nil ?_
              refine x_then ?_
              refine wp_seq ?_
              refine wp_seq ?_
              refine wp_region_lit ?_
              refine ql (.int .i64 a) (by kernel_rfl) (by kernel_rfl) ?_
              refine ql (.bool true) (by kernel_rfl) (R_bool (p := a < (1 : Int)) (by kernel_rfl) (by omega)) ?_
              refine wpList_nil ?_
              refine x_then ?_
              refine wp_cond_true (by kernel_rfl) ?_
              refine wp_seq ?_
              refine wp_region_lit ?_
              refine ql (.pointer none) (by kernel_rfl) (by kernel_rfl) ?_
              refine ql (.bool true) (by kernel_rfl) (by kernel_rfl) ?_
              refine ql (.bool true) (by kernel_rfl) (by kernel_rfl) ?_
              refine ql (.int .i64 2) (by kernel_rfl) (by kernel_rfl) ?_
              refine ql (.bool true) (by kernel_rfl) (R_beq (b := ((2 : Int) == 2)) (by kernel_rfl) (by decide)) ?_
              refine ql (.bool true) (by kernel_rfl) (by kernel_rfl) ?_
              refine ql (.bool true) (by kernel_rfl) (by kernel_rfl) ?_
              refine qc (f := 4) (args := #[]) (by kernel_rfl) (R_call #[] Try.func4 (by kernel_rfl) (by kernel_rfl) (by kernel_rfl)) ?_
              refine (awake39 _).mono ?_
              rintro e W12 ⟨rfl, H_⟩
              refine ⟨_, rfl, ?_⟩
              replace HS : St W (owns []) W12 [blk h [.chan (some q)] 46, chn q b.toNat (([] : List Int).map fun n : Int => Value.int .i64 n)] := HS.join (F := []) (G := []) H_
              clear H_
              refine ql (.bool true) (by kernel_rfl) (by kernel_rfl) ?_
              refine ql (.bool true) (by kernel_rfl) (by kernel_rfl) ?_
              refine wpList_nil ?_
              refine x_then ?_
              refine wp_ret ?_
              refine x_thenR ?_
              refine ret_ (.bool true) (by kernel_rfl) ?_
              exact ⟨rfl, HS.tail (F := [blk h [.chan (some q)] 46, chn q b.toNat (([] : List Int).map fun n : Int => Value.int .i64 n)])⟩
            · skip
              refine (pnew_over a _ (by omega)).mono ?_
              rintro e W13 ⟨rfl, H_⟩
              refine ⟨_, rfl, ?_⟩
              replace HS : St W (owns []) W13 [] := HS.join (F := []) (G := []) H_
              clear H_
              refine ql (.tuple #[.pointer none, .int .i64 5]) (by kernel_rfl) (by kernel_rfl) ?_
              refine ql (.pointer none) (by kernel_rfl) (by kernel_rfl) ?_
              refine ql (.int .i64 5) (by kernel_rfl) (by kernel_rfl) ?_
              refine ql (.pointer none) (by kernel_rfl) (by kernel_rfl) ?_
              refine ql (.int .i64 5) (by kernel_rfl) (by kernel_rfl) ?_
              refine wpList_nil ?_
              refine x_then ?_
              refine wp_seq ?_
              refine wp_region_lit ?_
              refine ql (.int .i64 b) (by kernel_rfl) (by kernel_rfl) ?_
              refine qc (f := 5) (args := #[.int .i64 b]) (by kernel_rfl) (R_call #[.int .i64 b] Try.func5 (by kernel_rfl) (by kernel_rfl) (by kernel_rfl)) ?_
              refine (pnew_okI b _ (by omega) (by omega)).mono ?_
              rintro e W14 ⟨h, q, rfl, H_⟩
              refine ⟨_, rfl, ?_⟩
              replace HS : St W (owns []) W14 [blk h [.chan (some q)] 46, chn q b.toNat (([] : List Int).map fun n : Int => Value.int .i64 n)] := HS.join (F := []) (G := [blk h [.chan (some q)] 46, chn q b.toNat (([] : List Int).map fun n : Int => Value.int .i64 n)]) H_
              clear H_
              refine ql (.tuple #[.pointer (some ⟨h, 0, none⟩), .int .i64 0]) (by kernel_rfl) (by kernel_rfl) ?_
              refine ql (.pointer (some ⟨h, 0, none⟩)) (by kernel_rfl) (by kernel_rfl) ?_
              refine ql (.int .i64 0) (by kernel_rfl) (by kernel_rfl) ?_
              refine ql (.pointer (some ⟨h, 0, none⟩)) (by kernel_rfl) (by kernel_rfl) ?_
              refine ql (.int .i64 0) (by kernel_rfl) (by kernel_rfl) ?_
              refine wpList_nil ?_
              refine x_then ?_
              refine wp_seq ?_
              refine wp_seq ?_
              refine wp_region_lit ?_
              refine ql (.int .i64 a) (by kernel_rfl) (by kernel_rfl) ?_
              refine ql (.bool false) (by kernel_rfl) (R_nbool (p := a < (1 : Int)) (by kernel_rfl) (by omega)) ?_
              refine wpList_nil ?_
              refine x_then ?_
              refine wp_cond_false (by kernel_rfl) ?_
              refine wp_skip ?_
              refine x_then ?_
              refine wp_seq ?_
              refine wp_seq ?_
              refine wp_region_lit ?_
              refine ql (.int .i64 a) (by kernel_rfl) (by kernel_rfl) ?_
              refine ql (.bool true) (by kernel_rfl) (R_bool (p := a > (65536 : Int)) (by kernel_rfl) (by omega)) ?_
              refine wpList_nil ?_
              refine x_then ?_
              refine wp_cond_true (by kernel_rfl) ?_
              refine wp_seq ?_
              refine wp_region_lit ?_
              refine ql (.pointer none) (by kernel_rfl) (by kernel_rfl) ?_
              refine ql (.bool true) (by kernel_rfl) (by kernel_rfl) ?_
              refine ql (.bool true) (by kernel_rfl) (by kernel_rfl) ?_
              refine ql (.int .i64 5) (by kernel_rfl) (by kernel_rfl) ?_
              refine ql (.bool true) (by kernel_rfl) (R_beq (b := ((5 : Int) == 5)) (by kernel_rfl) (by decide)) ?_
              refine ql (.bool true) (by kernel_rfl) (by kernel_rfl) ?_
              refine ql (.bool true) (by kernel_rfl) (by kernel_rfl) ?_
              refine qc (f := 4) (args := #[]) (by kernel_rfl) (R_call #[] Try.func4 (by kernel_rfl) (by kernel_rfl) (by kernel_rfl)) ?_
              refine (awake39 _).mono ?_
              rintro e W15 ⟨rfl, H_⟩
              refine ⟨_, rfl, ?_⟩
              replace HS : St W (owns []) W15 [blk h [.chan (some q)] 46, chn q b.toNat (([] : List Int).map fun n : Int => Value.int .i64 n)] := HS.join (F := []) (G := []) H_
              clear H_
              refine ql (.bool true) (by kernel_rfl) (by kernel_rfl) ?_
              refine ql (.bool true) (by kernel_rfl) (by kernel_rfl) ?_
              refine wpList_nil ?_
              refine x_then ?_
              refine wp_ret ?_
              refine x_thenR ?_
              refine ret_ (.bool true) (by kernel_rfl) ?_
              exact ⟨rfl, HS.tail (F := [blk h [.chan (some q)] 46, chn q b.toNat (([] : List Int).map fun n : Int => Value.int .i64 n)])⟩
  · skip
    refine ql (.bool false) (by kernel_rfl) (R_nbool (p := a > (1000 : Int)) (by kernel_rfl) (hc1)) ?_
    refine ql (.bool false) (by kernel_rfl) (by kernel_rfl) ?_
    refine qln (by kernel_rfl) ?_
    refine qln (by kernel_rfl) ?_
    refine ql (.bool false) (by kernel_rfl) (by kernel_rfl) ?_
    refine ql (.bool false) (by kernel_rfl) (by kernel_rfl) ?_
    refine ql (.int .i64 b) (by kernel_rfl) (by kernel_rfl) ?_
    by_cases hc16 : b < (1 : Int)
    · skip
      refine ql (.bool true) (by kernel_rfl) (R_bool (p := b < (1 : Int)) (by kernel_rfl) (hc16)) ?_
      refine ql (.bool true) (by kernel_rfl) (by kernel_rfl) ?_
      refine ql (.bool true) (by kernel_rfl) (by kernel_rfl) ?_
      refine qln (by kernel_rfl) ?_
      refine qln (by kernel_rfl) ?_
      refine ql (.bool true) (by kernel_rfl) (by kernel_rfl) ?_
      refine ql (.bool true) (by kernel_rfl) (by kernel_rfl) ?_
      refine qln (by kernel_rfl) ?_
      refine qln (by kernel_rfl) ?_
      refine qln (by kernel_rfl) ?_
      refine ql (.bool true) (by kernel_rfl) (by kernel_rfl) ?_
      refine wpList_nil ?_
      refine x_then ?_
      refine wp_cond_true (by kernel_rfl) ?_
      refine wp_seq ?_
      refine wp_region_lit ?_
      refine qc (f := 4) (args := #[]) (by kernel_rfl) (R_call #[] Try.func4 (by kernel_rfl) (by kernel_rfl) (by kernel_rfl)) ?_
      refine (awake39 _).mono ?_
      rintro e W17 ⟨rfl, H_⟩
      refine ⟨_, rfl, ?_⟩
      replace HS : St W (owns []) W17 [] := HS.join (F := []) (G := []) H_
      clear H_
      refine ql (.bool true) (by kernel_rfl) (by kernel_rfl) ?_
      refine wpList_nil ?_
      refine x_then ?_
      refine wp_ret ?_
      refine x_thenR ?_
      refine ret_ (.bool true) (by kernel_rfl) ?_
      exact ⟨rfl, HS.tail (F := [])⟩
    · skip
      refine ql (.bool false) (by kernel_rfl) (R_nbool (p := b < (1 : Int)) (by kernel_rfl) (hc16)) ?_
      refine ql (.bool false) (by kernel_rfl) (by kernel_rfl) ?_
      refine ql (.bool false) (by kernel_rfl) (by kernel_rfl) ?_
      refine ql (.int .i64 b) (by kernel_rfl) (by kernel_rfl) ?_
      by_cases hc18 : b > (1000 : Int)
      · skip
        refine ql (.bool true) (by kernel_rfl) (R_bool (p := b > (1000 : Int)) (by kernel_rfl) (hc18)) ?_
        refine ql (.bool true) (by kernel_rfl) (by kernel_rfl) ?_
        refine ql (.bool true) (by kernel_rfl) (by kernel_rfl) ?_
        refine qln (by kernel_rfl) ?_
        refine qln (by kernel_rfl) ?_
        refine qln (by kernel_rfl) ?_
        refine ql (.bool true) (by kernel_rfl) (by kernel_rfl) ?_
        refine wpList_nil ?_
        refine x_then ?_
        refine wp_cond_true (by kernel_rfl) ?_
        refine wp_seq ?_
        refine wp_region_lit ?_
        refine qc (f := 4) (args := #[]) (by kernel_rfl) (R_call #[] Try.func4 (by kernel_rfl) (by kernel_rfl) (by kernel_rfl)) ?_
        refine (awake39 _).mono ?_
        rintro e W19 ⟨rfl, H_⟩
        refine ⟨_, rfl, ?_⟩
        replace HS : St W (owns []) W19 [] := HS.join (F := []) (G := []) H_
        clear H_
        refine ql (.bool true) (by kernel_rfl) (by kernel_rfl) ?_
        refine wpList_nil ?_
        refine x_then ?_
        refine wp_ret ?_
        refine x_thenR ?_
        refine ret_ (.bool true) (by kernel_rfl) ?_
        exact ⟨rfl, HS.tail (F := [])⟩
      · skip
        refine ql (.bool false) (by kernel_rfl) (R_nbool (p := b > (1000 : Int)) (by kernel_rfl) (hc18)) ?_
        refine ql (.bool false) (by kernel_rfl) (by kernel_rfl) ?_
        refine ql (.bool false) (by kernel_rfl) (by kernel_rfl) ?_
        refine ql (.slice L k e) (by kernel_rfl) (by kernel_rfl) ?_
        refine ql (.int .i64 (k : Int)) (by kernel_rfl) (by kernel_rfl) ?_
        by_cases hc20 : (k : Int) > (60 : Int)
        · skip
          refine ql (.bool true) (by kernel_rfl) (R_bool (p := (k : Int) > (60 : Int)) (by kernel_rfl) (hc20)) ?_
          refine ql (.bool true) (by kernel_rfl) (by kernel_rfl) ?_
          refine wpList_nil ?_
          refine x_then ?_
          refine wp_cond_true (by kernel_rfl) ?_
          refine wp_seq ?_
          refine wp_region_lit ?_
          refine qc (f := 4) (args := #[]) (by kernel_rfl) (R_call #[] Try.func4 (by kernel_rfl) (by kernel_rfl) (by kernel_rfl)) ?_
          refine (awake39 _).mono ?_
          rintro e W21 ⟨rfl, H_⟩
          refine ⟨_, rfl, ?_⟩
          replace HS : St W (owns []) W21 [] := HS.join (F := []) (G := []) H_
          clear H_
          refine ql (.bool true) (by kernel_rfl) (by kernel_rfl) ?_
          refine wpList_nil ?_
          refine x_then ?_
          refine wp_ret ?_
          refine x_thenR ?_
          refine ret_ (.bool true) (by kernel_rfl) ?_
          exact ⟨rfl, HS.tail (F := [])⟩
        · skip
          refine ql (.bool false) (by kernel_rfl) (R_nbool (p := (k : Int) > (60 : Int)) (by kernel_rfl) (hc20)) ?_
          refine ql (.bool false) (by kernel_rfl) (by kernel_rfl) ?_
          refine wpList_nil ?_
          refine x_then ?_
          refine wp_cond_false (by kernel_rfl) ?_
          refine wp_skip ?_
          refine x_then ?_
          refine wp_seq ?_
          refine wp_region_lit ?_
          refine ql (.int .i64 a) (by kernel_rfl) (by kernel_rfl) ?_
          refine qc (f := 5) (args := #[.int .i64 a]) (by kernel_rfl) (R_call #[.int .i64 a] Try.func5 (by kernel_rfl) (by kernel_rfl) (by kernel_rfl)) ?_
          by_cases ha1 : a < 1
          · skip
            refine (pnew_arg a _ (by omega)).mono ?_
            rintro e W22 ⟨rfl, H_⟩
            refine ⟨_, rfl, ?_⟩
            replace HS : St W (owns []) W22 [] := HS.join (F := []) (G := []) H_
            clear H_
            refine ql (.tuple #[.pointer none, .int .i64 2]) (by kernel_rfl) (by kernel_rfl) ?_
            refine ql (.pointer none) (by kernel_rfl) (by kernel_rfl) ?_
            refine ql (.int .i64 2) (by kernel_rfl) (by kernel_rfl) ?_
            refine ql (.pointer none) (by kernel_rfl) (by kernel_rfl) ?_
            refine ql (.int .i64 2) (by kernel_rfl) (by kernel_rfl) ?_
            refine wpList_nil ?_
            refine x_then ?_
            refine wp_seq ?_
            refine wp_region_lit ?_
            refine ql (.int .i64 b) (by kernel_rfl) (by kernel_rfl) ?_
            refine qc (f := 5) (args := #[.int .i64 b]) (by kernel_rfl) (R_call #[.int .i64 b] Try.func5 (by kernel_rfl) (by kernel_rfl) (by kernel_rfl)) ?_
            refine (pnew_okI b _ (by omega) (by omega)).mono ?_
            rintro e W23 ⟨h, q, rfl, H_⟩
            refine ⟨_, rfl, ?_⟩
            replace HS : St W (owns []) W23 [blk h [.chan (some q)] 46, chn q b.toNat (([] : List Int).map fun n : Int => Value.int .i64 n)] := HS.join (F := []) (G := [blk h [.chan (some q)] 46, chn q b.toNat (([] : List Int).map fun n : Int => Value.int .i64 n)]) H_
            clear H_
            refine ql (.tuple #[.pointer (some ⟨h, 0, none⟩), .int .i64 0]) (by kernel_rfl) (by kernel_rfl) ?_
            refine ql (.pointer (some ⟨h, 0, none⟩)) (by kernel_rfl) (by kernel_rfl) ?_
            refine ql (.int .i64 0) (by kernel_rfl) (by kernel_rfl) ?_
            refine ql (.pointer (some ⟨h, 0, none⟩)) (by kernel_rfl) (by kernel_rfl) ?_
            refine ql (.int .i64 0) (by kernel_rfl) (by kernel_rfl) ?_
            refine wpList_nil ?_
            refine x_then ?_
            refine wp_seq ?_
            refine wp_seq ?_
            refine wp_region_lit ?_
            refine ql (.int .i64 a) (by kernel_rfl) (by kernel_rfl) ?_
            refine ql (.bool true) (by kernel_rfl) (R_bool (p := a < (1 : Int)) (by kernel_rfl) (by omega)) ?_
            refine wpList_nil ?_
            refine x_then ?_
            refine wp_cond_true (by kernel_rfl) ?_
            refine wp_seq ?_
            refine wp_region_lit ?_
            refine ql (.pointer none) (by kernel_rfl) (by kernel_rfl) ?_
            refine ql (.bool true) (by kernel_rfl) (by kernel_rfl) ?_
            refine ql (.bool true) (by kernel_rfl) (by kernel_rfl) ?_
            refine ql (.int .i64 2) (by kernel_rfl) (by kernel_rfl) ?_
            refine ql (.bool true) (by kernel_rfl) (R_beq (b := ((2 : Int) == 2)) (by kernel_rfl) (by decide)) ?_
            refine ql (.bool true) (by kernel_rfl) (by kernel_rfl) ?_
            refine ql (.bool true) (by kernel_rfl) (by kernel_rfl) ?_
            refine qc (f := 4) (args := #[]) (by kernel_rfl) (R_call #[] Try.func4 (by kernel_rfl) (by kernel_rfl) (by kernel_rfl)) ?_
            refine (awake39 _).mono ?_
            rintro e W24 ⟨rfl, H_⟩
            refine ⟨_, rfl, ?_⟩
            replace HS : St W (owns []) W24 [blk h [.chan (some q)] 46, chn q b.toNat (([] : List Int).map fun n : Int => Value.int .i64 n)] := HS.join (F := []) (G := []) H_
            clear H_
            refine ql (.bool true) (by kernel_rfl) (by kernel_rfl) ?_
            refine ql (.bool true) (by kernel_rfl) (by kernel_rfl) ?_
            refine wpList_nil ?_
            refine x_then ?_
            refine wp_ret ?_
            refine x_thenR ?_
            refine ret_ (.bool true) (by kernel_rfl) ?_
            exact ⟨rfl, HS.tail (F := [blk h [.chan (some q)] 46, chn q b.toNat (([] : List Int).map fun n : Int => Value.int .i64 n)])⟩
          · skip
            refine (pnew_over a _ (by omega)).mono ?_
            rintro e W25 ⟨rfl, H_⟩
            refine ⟨_, rfl, ?_⟩
            replace HS : St W (owns []) W25 [] := HS.join (F := []) (G := []) H_
            clear H_
            refine ql (.tuple #[.pointer none, .int .i64 5]) (by kernel_rfl) (by kernel_rfl) ?_
            refine ql (.pointer none) (by kernel_rfl) (by kernel_rfl) ?_
            refine ql (.int .i64 5) (by kernel_rfl) (by kernel_rfl) ?_
            refine ql (.pointer none) (by kernel_rfl) (by kernel_rfl) ?_
            refine ql (.int .i64 5) (by kernel_rfl) (by kernel_rfl) ?_
            refine wpList_nil ?_
            refine x_then ?_
            refine wp_seq ?_
            refine wp_region_lit ?_
            refine ql (.int .i64 b) (by kernel_rfl) (by kernel_rfl) ?_
            refine qc (f := 5) (args := #[.int .i64 b]) (by kernel_rfl) (R_call #[.int .i64 b] Try.func5 (by kernel_rfl) (by kernel_rfl) (by kernel_rfl)) ?_
            refine (pnew_okI b _ (by omega) (by omega)).mono ?_
            rintro e W26 ⟨h, q, rfl, H_⟩
            refine ⟨_, rfl, ?_⟩
            replace HS : St W (owns []) W26 [blk h [.chan (some q)] 46, chn q b.toNat (([] : List Int).map fun n : Int => Value.int .i64 n)] := HS.join (F := []) (G := [blk h [.chan (some q)] 46, chn q b.toNat (([] : List Int).map fun n : Int => Value.int .i64 n)]) H_
            clear H_
            refine ql (.tuple #[.pointer (some ⟨h, 0, none⟩), .int .i64 0]) (by kernel_rfl) (by kernel_rfl) ?_
            refine ql (.pointer (some ⟨h, 0, none⟩)) (by kernel_rfl) (by kernel_rfl) ?_
            refine ql (.int .i64 0) (by kernel_rfl) (by kernel_rfl) ?_
            refine ql (.pointer (some ⟨h, 0, none⟩)) (by kernel_rfl) (by kernel_rfl) ?_
            refine ql (.int .i64 0) (by kernel_rfl) (by kernel_rfl) ?_
            refine wpList_nil ?_
            refine x_then ?_
            refine wp_seq ?_
            refine wp_seq ?_
            refine wp_region_lit ?_
            refine ql (.int .i64 a) (by kernel_rfl) (by kernel_rfl) ?_
            refine ql (.bool false) (by kernel_rfl) (R_nbool (p := a < (1 : Int)) (by kernel_rfl) (by omega)) ?_
            refine wpList_nil ?_
            refine x_then ?_
            refine wp_cond_false (by kernel_rfl) ?_
            refine wp_skip ?_
            refine x_then ?_
            refine wp_seq ?_
            refine wp_seq ?_
            refine wp_region_lit ?_
            refine ql (.int .i64 a) (by kernel_rfl) (by kernel_rfl) ?_
            refine ql (.bool true) (by kernel_rfl) (R_bool (p := a > (65536 : Int)) (by kernel_rfl) (by omega)) ?_
            refine wpList_nil ?_
            refine x_then ?_
            refine wp_cond_true (by kernel_rfl) ?_
            refine wp_seq ?_
            refine wp_region_lit ?_
            refine ql (.pointer none) (by kernel_rfl) (by kernel_rfl) ?_
            refine ql (.bool true) (by kernel_rfl) (by kernel_rfl) ?_
            refine ql (.bool true) (by kernel_rfl) (by kernel_rfl) ?_
            refine ql (.int .i64 5) (by kernel_rfl) (by kernel_rfl) ?_
            refine ql (.bool true) (by kernel_rfl) (R_beq (b := ((5 : Int) == 5)) (by kernel_rfl) (by decide)) ?_
            refine ql (.bool true) (by kernel_rfl) (by kernel_rfl) ?_
            refine ql (.bool true) (by kernel_rfl) (by kernel_rfl) ?_
            refine qc (f := 4) (args := #[]) (by kernel_rfl) (R_call #[] Try.func4 (by kernel_rfl) (by kernel_rfl) (by kernel_rfl)) ?_
            refine (awake39 _).mono ?_
            rintro e W27 ⟨rfl, H_⟩
            refine ⟨_, rfl, ?_⟩
            replace HS : St W (owns []) W27 [blk h [.chan (some q)] 46, chn q b.toNat (([] : List Int).map fun n : Int => Value.int .i64 n)] := HS.join (F := []) (G := []) H_
            clear H_
            refine ql (.bool true) (by kernel_rfl) (by kernel_rfl) ?_
            refine ql (.bool true) (by kernel_rfl) (by kernel_rfl) ?_
            refine wpList_nil ?_
            refine x_then ?_
            refine wp_ret ?_
            refine x_thenR ?_
            refine ret_ (.bool true) (by kernel_rfl) ?_
            exact ⟨rfl, HS.tail (F := [blk h [.chan (some q)] 46, chn q b.toNat (([] : List Int).map fun n : Int => Value.int .i64 n)])⟩

theorem PoolPlays_walk (a b : Int) (L : Option Addr) (e : Nat) (acts : List (Int × Int)) (W : World) (hr : Rd W L (cf actC acts)) : Calls Try.prog 3 #[.int .i64 a, .int .i64 b, .slice L acts.length e] W fun e W' => e = .returned (.bool true) ∧ St W (owns []) W' [] := by
  by_cases h : 1 ≤ a ∧ a ≤ 1000 ∧ 1 ≤ b ∧ b ≤ 1000 ∧ acts.length ≤ 60
  · obtain ⟨h1, h2, h3, h4, h5⟩ := h
    obtain ⟨ca, rfl⟩ := Int.eq_ofNat_of_zero_le (by omega : 0 ≤ a)
    obtain ⟨cb, rfl⟩ := Int.eq_ofNat_of_zero_le (by omega : 0 ≤ b)
    exact pp_main ca cb L e acts W hr (by omega) (by omega) (by omega) (by omega) h5
  · exact pp_other a b L e acts.length W h


end Go.Proofs.Ytbjligkokogokaa.GPoolPlays
