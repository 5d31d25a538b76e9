/- Written for this claim by gp.py, a program of this session's, over the kit's print. Lean checks it. -/
import Derived.Test.YtbjligkokogokaaGPoolPlaysx0
import Derived.Test.YtbjligkokogokaaGPoolPlayshx
import Derived.Test.YtbjligkokogokaaGPoolPlayshspPoolPlaysa
import Derived.Test.YtbjligkokogokaaGPoolPlayshspPoolPlaysb
import Derived.WalkKit
import Derived.StillTailTactics
import Derived.Deep.LoopGhost
import Derived.KernelRfl
import Derived.Deep.OwnRows
import Derived.Laws.OwnMore
import Derived.Laws.MakeOwn
import Derived.Maps.AppendAt
import Derived.OrdersHeld
namespace Go.Proofs.Ytbjligkokogokaa.GPoolPlays
open Go.RowKit Go.Proofs.YtbjligkokogokaaW.PrintWords Go.Proofs.YtbjligkokogokaaW.PrintLast Go.Proofs.YtbjligkokogokaaW.PrintMore
attribute [local go_sem] max2_int min2_int max_two min_two max_three min_three max_four min_four   -- for this text's walks alone
set_option linter.unusedVariables false
set_option linter.unusedSimpArgs false

--import Derived.WalkKit
--import Derived.StillTailTactics
--import Derived.Deep.LoopGhost
--import Derived.KernelRfl
--import Derived.Deep.OwnRows
--import Derived.Laws.OwnMore
--import Derived.Laws.MakeOwn
--import Derived.Maps.AppendAt
--import Derived.OrdersHeld
attribute [local irreducible] wpStill wpList Code.wp TA

set_option maxRecDepth 100000 in
set_option maxHeartbeats 1000000 in
theorem does_t (g p ca h q cb : Nat) (A : Option Addr) (c : Nat) (xs : List Int) (B : Option Addr) (d : Nat) (ys : List Int) (k m : Int) (W : World) (M : Nat → Prop) (HS : St W M W [blk g [.chan (some p)] 46, chn p ca (xs.map fun n : Int => Value.int .i64 n), blk h [.chan (some q)] 46, chn q cb (ys.map fun n : Int => Value.int .i64 n), rde A (ci .i64 xs), rde B (ci .i64 ys)]) (ha : ca ≤ 65536) (hb : cb ≤ 65536) (hx : xs.length ≤ ca) (hy : ys.length ≤ cb) (hxc : xs.length ≤ c) (hyd : ys.length ≤ d) : Calls Try.prog 6 #[.pointer (some ⟨g, 0, none⟩), .pointer (some ⟨h, 0, none⟩), .agg #[.slice A xs.length c, .int .i64 (ca : Int)], .agg #[.slice B ys.length d, .int .i64 (cb : Int)], .agg #[.int .i64 k, .int .i64 m]] W fun e W' => ∃ xs' ys' A' c' B' d', e = .returned (.tuple #[.agg #[.slice A' xs'.length c', .int .i64 (ca : Int)], .agg #[.slice B' ys'.length d', .int .i64 (cb : Int)], .bool true]) ∧ St W M W' [blk g [.chan (some p)] 46, chn p ca (xs'.map fun n : Int => Value.int .i64 n), blk h [.chan (some q)] 46, chn q cb (ys'.map fun n : Int => Value.int .i64 n), rde A' (ci .i64 xs'), rde B' (ci .i64 ys')] ∧ xs'.length ≤ ca ∧ ys'.length ≤ cb ∧ xs'.length ≤ c' ∧ ys'.length ≤ d' := by
  refine calls_enter ((.pointer (some ⟨g, 0, none⟩)) :: (.pointer (some ⟨h, 0, none⟩)) :: (.agg #[.slice A xs.length c, .int .i64 (ca : Int)]) :: (.agg #[.slice B ys.length d, .int .i64 (cb : Int)]) :: (.agg #[.int .i64 k, .int .i64 m]) :: undef :: undef :: undef :: undef :: undef :: undef :: undef :: undef :: undef :: undef :: undef :: undef :: undef :: undef :: undef :: undef :: undef :: undef :: undef :: undef :: undef :: undef :: undef :: undef :: undef :: undef :: undef :: undef :: undef :: undef :: undef :: undef :: undef :: undef :: undef :: undef :: undef :: undef :: undef :: undef :: undef :: undef :: undef :: undef :: undef :: undef :: undef :: undef :: undef :: undef :: undef :: undef :: undef :: undef :: undef :: undef :: undef :: undef :: undef :: undef :: undef :: undef :: undef :: undef :: undef :: undef :: undef :: undef :: undef :: undef :: undef :: undef :: undef :: undef :: undef :: undef :: undef :: undef :: undef :: undef :: undef :: undef :: undef :: undef :: undef :: undef :: undef :: undef :: undef :: undef :: undef :: undef :: undef :: undef :: undef :: undef :: undef :: undef :: undef :: undef :: undef :: undef :: undef :: undef :: undef :: undef :: undef :: undef :: undef :: undef :: undef :: undef :: undef :: undef :: undef :: undef :: undef :: undef :: undef :: undef :: undef :: undef :: undef :: undef :: undef :: undef :: undef :: undef :: undef :: undef :: undef :: undef :: undef :: undef :: undef :: undef :: undef :: undef :: undef :: undef :: undef :: undef :: undef :: undef :: []) Try.func6 rfl (by kernel_rfl) ?_
  refine wp_seq ?_
  refine wp_region_lit ?_
  refine kb HS [.slice A xs.length c, .int .i64 (ca : Int)] 30 (fun g => .pointer (some ⟨g, 0, none⟩)) (by kernel_rfl) (by kernel_rfl) ?_
  intro g1 W2 H_
  replace HS : St W M W2 [blk g1 [.slice A xs.length c, .int .i64 (ca : Int)] 30, blk g [.chan (some p)] 46, chn p ca (xs.map fun n : Int => Value.int .i64 n), blk h [.chan (some q)] 46, chn q cb (ys.map fun n : Int => Value.int .i64 n), rde A (ci .i64 xs), rde B (ci .i64 ys)] := H_
  clear H_
  refine kb HS [.slice B ys.length d, .int .i64 (cb : Int)] 30 (fun g => .pointer (some ⟨g, 0, none⟩)) (by kernel_rfl) (by kernel_rfl) ?_
  intro g3 W4 H_
  replace HS : St W M W4 [blk g3 [.slice B ys.length d, .int .i64 (cb : Int)] 30, blk g1 [.slice A xs.length c, .int .i64 (ca : Int)] 30, blk g [.chan (some p)] 46, chn p ca (xs.map fun n : Int => Value.int .i64 n), blk h [.chan (some q)] 46, chn q cb (ys.map fun n : Int => Value.int .i64 n), rde A (ci .i64 xs), rde B (ci .i64 ys)] := H_
  clear H_
  refine kb HS [.int .i64 k, .int .i64 m] 34 (fun g => .pointer (some ⟨g, 0, none⟩)) (by kernel_rfl) (by kernel_rfl) ?_
  intro g5 W6 H_
  replace HS : St W M W6 [blk g5 [.int .i64 k, .int .i64 m] 34, blk g3 [.slice B ys.length d, .int .i64 (cb : Int)] 30, blk g1 [.slice A xs.length c, .int .i64 (ca : Int)] 30, blk g [.chan (some p)] 46, chn p ca (xs.map fun n : Int => Value.int .i64 n), blk h [.chan (some q)] 46, chn q cb (ys.map fun n : Int => Value.int .i64 n), rde A (ci .i64 xs), rde B (ci .i64 ys)] := H_
  clear H_
  refine kb HS [.slice none 0 0, .int .i64 0] 30 (fun g => .pointer (some ⟨g, 0, none⟩)) (by kernel_rfl) (by kernel_rfl) ?_
  intro g7 W8 H_
  replace HS : St W M W8 [blk g7 [.slice none 0 0, .int .i64 0] 30, blk g5 [.int .i64 k, .int .i64 m] 34, blk g3 [.slice B ys.length d, .int .i64 (cb : Int)] 30, blk g1 [.slice A xs.length c, .int .i64 (ca : Int)] 30, blk g [.chan (some p)] 46, chn p ca (xs.map fun n : Int => Value.int .i64 n), blk h [.chan (some q)] 46, chn q cb (ys.map fun n : Int => Value.int .i64 n), rde A (ci .i64 xs), rde B (ci .i64 ys)] := H_
  clear H_
  refine kb HS [.slice none 0 0, .int .i64 0] 30 (fun g => .pointer (some ⟨g, 0, none⟩)) (by kernel_rfl) (by kernel_rfl) ?_
  intro g9 W10 H_
  replace HS : St W M W10 [blk g9 [.slice none 0 0, .int .i64 0] 30, blk g7 [.slice none 0 0, .int .i64 0] 30, blk g5 [.int .i64 k, .int .i64 m] 34, blk g3 [.slice B ys.length d, .int .i64 (cb : Int)] 30, blk g1 [.slice A xs.length c, .int .i64 (ca : Int)] 30, blk g [.chan (some p)] 46, chn p ca (xs.map fun n : Int => Value.int .i64 n), blk h [.chan (some q)] 46, chn q cb (ys.map fun n : Int => Value.int .i64 n), rde A (ci .i64 xs), rde B (ci .i64 ys)] := H_
  clear H_
  refine ql (.bool false) (by kernel_rfl) (by kernel_rfl) ?_
  refine wpList_nil ?_
  refine x_then ?_
  refine wp_seq ?_
  refine wp_seq ?_
  refine wp_region_lit ?_
  refine ql (.pointer (some ⟨g5, 0, none⟩)) (by kernel_rfl) (by kernel_rfl) ?_
  refine ql (.int .i64 k) (by kernel_rfl) (R_load (p := ⟨g5, 0, none⟩) (by kernel_rfl) (by kernel_rfl) (by kernel_rfl) (HS.cell (i := 2) (j := 0) rfl rfl)) ?_
  refine wpList_nil ?_
  refine x_then ?_
  refine wp_block ?_
  refine wp_seq ?_
  refine wp_region_lit ?_
  by_cases hc11 : k = (0 : Int)
  · skip
    refine ql (.bool true) (by kernel_rfl) (R_beq (b := (k == (0 : Int))) (by kernel_rfl) (beq_t (hc11))) ?_
    refine ql (.bool true) (by kernel_rfl) (by kernel_rfl) ?_
    refine wpList_nil ?_
    refine x_then ?_
    refine wp_cond_true (by kernel_rfl) ?_
    refine wp_seq ?_
    refine wp_region_lit ?_
    refine ql (.agg #[.slice A xs.length c, .int .i64 (ca : Int)]) (by kernel_rfl) (R_loadN (p := ⟨g1, 0, none⟩) [.slice A xs.length c, .int .i64 (ca : Int)] (by kernel_rfl) (by kernel_rfl) (by kernel_rfl) (by kernel_rfl) (two_at (HS.cell (i := 4) (j := 0) rfl rfl) (HS.cell (i := 4) (j := 1) rfl rfl))) ?_
    refine ql (.pointer (some ⟨g5, 1, none⟩)) (by kernel_rfl) (by kernel_rfl) ?_
    refine ql (.int .i64 m) (by kernel_rfl) (R_load (p := ⟨g5, 1, none⟩) (by kernel_rfl) (by kernel_rfl) (by kernel_rfl) (HS.cell (i := 2) (j := 1) rfl rfl)) ?_
    refine qc (f := 15) (args := #[.agg #[.slice A xs.length c, .int .i64 (ca : Int)], .int .i64 m]) (by kernel_rfl) (R_call #[.agg #[.slice A xs.length c, .int .i64 (ca : Int)], .int .i64 m] Try.func15 (by kernel_rfl) (by kernel_rfl) (by kernel_rfl)) ?_
    by_cases hrm : xs.length < ca
    · skip
      refine (rpput_room _ c xs (ca : Int) m _ (HS.get (i := 9) rfl) (by omega) (by omega)).mono ?_
      rintro e W14 ⟨A12, c13, rfl, H_⟩
      refine ⟨_, rfl, ?_⟩
      replace HS : St W M W14 [row A12 ((xs ++ [m]).length) c13 (ci .i64 (xs ++ [m])) 3 1, blk g9 [.slice none 0 0, .int .i64 0] 30, blk g7 [.slice none 0 0, .int .i64 0] 30, blk g5 [.int .i64 k, .int .i64 m] 34, blk g3 [.slice B ys.length d, .int .i64 (cb : Int)] 30, blk g1 [.slice A xs.length c, .int .i64 (ca : Int)] 30, blk g [.chan (some p)] 46, chn p ca (xs.map fun n : Int => Value.int .i64 n), blk h [.chan (some q)] 46, chn q cb (ys.map fun n : Int => Value.int .i64 n), rde A (ci .i64 xs), rde B (ci .i64 ys)] := HS.join (F := []) (G := [row A12 ((xs ++ [m]).length) c13 (ci .i64 (xs ++ [m])) 3 1]) H_
      clear H_
      have hcA12 := (St.rcap HS (i := 0) rfl).1
      simp only [List.length_append, List.length_cons, List.length_nil] at hcA12
      replace HS : St W M W14 [rde A12 (ci .i64 (xs ++ [m])), blk g9 [.slice none 0 0, .int .i64 0] 30, blk g7 [.slice none 0 0, .int .i64 0] 30, blk g5 [.int .i64 k, .int .i64 m] 34, blk g3 [.slice B ys.length d, .int .i64 (cb : Int)] 30, blk g1 [.slice A xs.length c, .int .i64 (ca : Int)] 30, blk g [.chan (some p)] 46, chn p ca (xs.map fun n : Int => Value.int .i64 n), blk h [.chan (some q)] 46, chn q cb (ys.map fun n : Int => Value.int .i64 n), rde A (ci .i64 xs), rde B (ci .i64 ys)] := HS.to_rde (i := 0) rfl
      replace HS : St W M W14 [rde A12 (ci .i64 (xs ++ [m])), blk g9 [.slice none 0 0, .int .i64 0] 30, blk g7 [.slice none 0 0, .int .i64 0] 30, blk g5 [.int .i64 k, .int .i64 m] 34, blk g3 [.slice B ys.length d, .int .i64 (cb : Int)] 30, blk g1 [.slice A xs.length c, .int .i64 (ca : Int)] 30, blk g [.chan (some p)] 46, chn p ca (xs.map fun n : Int => Value.int .i64 n), blk h [.chan (some q)] 46, chn q cb (ys.map fun n : Int => Value.int .i64 n), rde B (ci .i64 ys)] := St.tail (F := [rde A (ci .i64 xs)]) (HS.perm (perm_ [10, 0, 1, 2, 3, 4, 5, 6, 7, 8, 9, 11] (by kernel_rfl) rfl))
      refine ql (.tuple #[.agg #[.slice A12 ((xs ++ [m]).length) c13, .int .i64 (ca : Int)], .bool true]) (by kernel_rfl) (by kernel_rfl) ?_
      refine ql (.agg #[.slice A12 ((xs ++ [m]).length) c13, .int .i64 (ca : Int)]) (by kernel_rfl) (by kernel_rfl) ?_
      refine ql (.bool true) (by kernel_rfl) (by kernel_rfl) ?_
      refine kb HS [.slice none 0 0, .int .i64 0] 30 (fun g => .pointer (some ⟨g, 0, none⟩)) (by kernel_rfl) (by kernel_rfl) ?_
      intro g15 W16 H_
      replace HS : St W M W16 [blk g15 [.slice none 0 0, .int .i64 0] 30, rde A12 (ci .i64 (xs ++ [m])), blk g9 [.slice none 0 0, .int .i64 0] 30, blk g7 [.slice none 0 0, .int .i64 0] 30, blk g5 [.int .i64 k, .int .i64 m] 34, blk g3 [.slice B ys.length d, .int .i64 (cb : Int)] 30, blk g1 [.slice A xs.length c, .int .i64 (ca : Int)] 30, blk g [.chan (some p)] 46, chn p ca (xs.map fun n : Int => Value.int .i64 n), blk h [.chan (some q)] 46, chn q cb (ys.map fun n : Int => Value.int .i64 n), rde B (ci .i64 ys)] := H_
      clear H_
      refine ks (v := .agg #[.slice A12 ((xs ++ [m]).length) c13, .int .i64 (ca : Int)]) HS 0 rfl (0) [.slice A12 ((xs ++ [m]).length) c13, .int .i64 (ca : Int)] (by kernel_rfl) (by kernel_rfl) (by kernel_rfl) (by kernel_rfl) (by kernel_rfl) (one_ (by kernel_rfl)) (Nat.le_of_ble_eq_true rfl) rfl ?_
      intro W17 H_
      replace HS : St W M W17 [blk g15 [.slice A12 ((xs ++ [m]).length) c13, .int .i64 (ca : Int)] 30, rde A12 (ci .i64 (xs ++ [m])), blk g9 [.slice none 0 0, .int .i64 0] 30, blk g7 [.slice none 0 0, .int .i64 0] 30, blk g5 [.int .i64 k, .int .i64 m] 34, blk g3 [.slice B ys.length d, .int .i64 (cb : Int)] 30, blk g1 [.slice A xs.length c, .int .i64 (ca : Int)] 30, blk g [.chan (some p)] 46, chn p ca (xs.map fun n : Int => Value.int .i64 n), blk h [.chan (some q)] 46, chn q cb (ys.map fun n : Int => Value.int .i64 n), rde B (ci .i64 ys)] := H_
      clear H_
      refine ql (.bool true) (by kernel_rfl) (by kernel_rfl) ?_
      refine wpList_nil ?_
      refine x_then ?_
      refine wp_seq ?_
      replace HS : St W M W17 [blk g [.chan (some p)] 46, chn p ca (xs.map fun n : Int => Value.int .i64 n), blk g15 [.slice A12 ((xs ++ [m]).length) c13, .int .i64 (ca : Int)] 30, rde A12 (ci .i64 (xs ++ [m])), blk g9 [.slice none 0 0, .int .i64 0] 30, blk g7 [.slice none 0 0, .int .i64 0] 30, blk g5 [.int .i64 k, .int .i64 m] 34, blk g3 [.slice B ys.length d, .int .i64 (cb : Int)] 30, blk g1 [.slice A xs.length c, .int .i64 (ca : Int)] 30, blk h [.chan (some q)] 46, chn q cb (ys.map fun n : Int => Value.int .i64 n), rde B (ci .i64 ys)] := HS.perm (perm_ [7, 8, 0, 1, 2, 3, 4, 5, 6, 9, 10, 11] (by kernel_rfl) rfl)
      refine t_start HS (fun k_ => (blk g [.chan (some p)] 46).own k_ ∨ (chn p ca (xs.map fun n : Int => Value.int .i64 n)).own k_ ∨ (blk g7 [.slice none 0 0, .int .i64 0] 30).own k_ ∨ (blk g9 [.slice none 0 0, .int .i64 0] 30).own k_) 11 (by kernel_rfl) rfl ?_
      intro W18 H_ HD_
      clear HD_
      replace HS : St W M W18 [blk g [.chan (some p)] 46, chn p ca (xs.map fun n : Int => Value.int .i64 n), blk g15 [.slice A12 ((xs ++ [m]).length) c13, .int .i64 (ca : Int)] 30, rde A12 (ci .i64 (xs ++ [m])), blk g9 [.slice none 0 0, .int .i64 0] 30, blk g7 [.slice none 0 0, .int .i64 0] 30, blk g5 [.int .i64 k, .int .i64 m] 34, blk g3 [.slice B ys.length d, .int .i64 (cb : Int)] 30, blk g1 [.slice A xs.length c, .int .i64 (ca : Int)] 30, blk h [.chan (some q)] 46, chn q cb (ys.map fun n : Int => Value.int .i64 n), rde B (ci .i64 ys)] := H_
      clear H_
      have HV := HS
      have HK := Kpt.refl (fun k_ => (blk g [.chan (some p)] 46).own k_ ∨ (chn p ca (xs.map fun n : Int => Value.int .i64 n)).own k_ ∨ (blk g7 [.slice none 0 0, .int .i64 0] 30).own k_ ∨ (blk g9 [.slice none 0 0, .int .i64 0] 30).own k_) W18
      refine t_q (n := 10) 0 (.agg #[.slice A12 ((xs ++ [m]).length) c13, .int .i64 (ca : Int)]) rfl (by kernel_rfl) (by kernel_rfl) (fun _ _ _ h => h) (fun w' hk => (R_loadN (p := ⟨g15, 0, none⟩) [.slice A12 ((xs ++ [m]).length) c13, .int .i64 (ca : Int)] (by kernel_rfl) (by kernel_rfl) (by kernel_rfl) (by kernel_rfl) (two_at (hk.cellN (fun h_ => h_.elim (HV.sepB (a := 2) (b := 0) (by decide) rfl rfl) (fun h_ => h_.elim (HV.sepB (a := 2) (b := 1) (by decide) rfl rfl) (fun h_ => h_.elim (HV.sepB (a := 2) (b := 5) (by decide) rfl rfl) (HV.sepB (a := 2) (b := 4) (by decide) rfl rfl)))) (HV.cell (i := 2) (j := 0) rfl rfl)) (hk.cellN (fun h_ => h_.elim (HV.sepB (a := 2) (b := 0) (by decide) rfl rfl) (fun h_ => h_.elim (HV.sepB (a := 2) (b := 1) (by decide) rfl rfl) (fun h_ => h_.elim (HV.sepB (a := 2) (b := 5) (by decide) rfl rfl) (HV.sepB (a := 2) (b := 4) (by decide) rfl rfl)))) (HV.cell (i := 2) (j := 1) rfl rfl))))) HK ?_
      refine t_q (n := 9) 1 (.agg #[.slice B ys.length d, .int .i64 (cb : Int)]) rfl (by kernel_rfl) (by kernel_rfl) (fun _ _ _ h => h) (fun w' hk => (R_loadN (p := ⟨g3, 0, none⟩) [.slice B ys.length d, .int .i64 (cb : Int)] (by kernel_rfl) (by kernel_rfl) (by kernel_rfl) (by kernel_rfl) (two_at (hk.cellN (fun h_ => h_.elim (HV.sepB (a := 7) (b := 0) (by decide) rfl rfl) (fun h_ => h_.elim (HV.sepB (a := 7) (b := 1) (by decide) rfl rfl) (fun h_ => h_.elim (HV.sepB (a := 7) (b := 5) (by decide) rfl rfl) (HV.sepB (a := 7) (b := 4) (by decide) rfl rfl)))) (HV.cell (i := 7) (j := 0) rfl rfl)) (hk.cellN (fun h_ => h_.elim (HV.sepB (a := 7) (b := 0) (by decide) rfl rfl) (fun h_ => h_.elim (HV.sepB (a := 7) (b := 1) (by decide) rfl rfl) (fun h_ => h_.elim (HV.sepB (a := 7) (b := 5) (by decide) rfl rfl) (HV.sepB (a := 7) (b := 4) (by decide) rfl rfl)))) (HV.cell (i := 7) (j := 1) rfl rfl))))) HK ?_
      refine t_q (n := 8) 2 (.pointer (some ⟨g, 0, none⟩)) rfl (by kernel_rfl) (by kernel_rfl) (fun _ _ _ h => h) (fun w' hk => (by kernel_rfl)) HK ?_
      refine t_q (n := 7) 3 (.pointer (some ⟨g5, 1, none⟩)) rfl (by kernel_rfl) (by kernel_rfl) (fun _ _ _ h => h) (fun w' hk => (by kernel_rfl)) HK ?_
      refine t_q (n := 6) 4 (.int .i64 m) rfl (by kernel_rfl) (by kernel_rfl) (fun _ _ _ h => h) (fun w' hk => (R_load (p := ⟨g5, 1, none⟩) (by kernel_rfl) (by kernel_rfl) (by kernel_rfl) (hk.cellN (fun h_ => h_.elim (HV.sepB (a := 6) (b := 0) (by decide) rfl rfl) (fun h_ => h_.elim (HV.sepB (a := 6) (b := 1) (by decide) rfl rfl) (fun h_ => h_.elim (HV.sepB (a := 6) (b := 5) (by decide) rfl rfl) (HV.sepB (a := 6) (b := 4) (by decide) rfl rfl)))) (HV.cell (i := 6) (j := 1) rfl rfl)))) HK ?_
      refine t_q (n := 5) 6 (.bool true) rfl (by kernel_rfl) (by kernel_rfl) (fun _ _ _ h => h) (fun w' hk => (by kernel_rfl)) HK ?_
      refine t_c (n := 4) 5 (f := 16) (args := #[.pointer (some ⟨g, 0, none⟩), .int .i64 m]) rfl (by kernel_rfl) (by kernel_rfl) (R_call #[.pointer (some ⟨g, 0, none⟩), .int .i64 m] Try.func16 (by kernel_rfl) (by kernel_rfl) (by kernel_rfl)) ?_
      refine (pput_room g p 46 ca xs m _ _ (St.focus (F := [blk g [.chan (some p)] 46, chn p ca (xs.map fun n : Int => Value.int .i64 n)]) HS) (by omega)).mono ?_
      rintro e W19 ⟨rfl, H_⟩
      have hkf_ : ∀ k_, owns [blk g [.chan (some p)] 46, chn p ca (xs.map fun n : Int => Value.int .i64 n)] k_ → (blk g [.chan (some p)] 46).own k_ ∨ (chn p ca (xs.map fun n : Int => Value.int .i64 n)).own k_ ∨ (blk g7 [.slice none 0 0, .int .i64 0] 30).own k_ ∨ (blk g9 [.slice none 0 0, .int .i64 0] 30).own k_ := by
        intro k_ h_; obtain ⟨e_, he_, ho_⟩ := h_; simp only [List.mem_cons, List.not_mem_nil, or_false] at he_; rcases he_ with rfl | rfl <;> first | exact (.inl ho_) | exact (.inr (.inl ho_)) | exact (.inr (.inr (.inl ho_))) | exact (.inr (.inr (.inr ho_)))
      refine ⟨_, rfl, HK.trans H_.kept (fun _ h_ => .inl (hkf_ _ h_)), ?_⟩
      replace HK := HK.trans H_.kept (fun _ h_ => .inl (hkf_ _ h_))
      replace HS : St W M W19 [blk g [.chan (some p)] 46, chn p ca ((xs ++ [m]).map fun n : Int => Value.int .i64 n), blk g15 [.slice A12 ((xs ++ [m]).length) c13, .int .i64 (ca : Int)] 30, rde A12 (ci .i64 (xs ++ [m])), blk g9 [.slice none 0 0, .int .i64 0] 30, blk g7 [.slice none 0 0, .int .i64 0] 30, blk g5 [.int .i64 k, .int .i64 m] 34, blk g3 [.slice B ys.length d, .int .i64 (cb : Int)] 30, blk g1 [.slice A xs.length c, .int .i64 (ca : Int)] 30, blk h [.chan (some q)] 46, chn q cb (ys.map fun n : Int => Value.int .i64 n), rde B (ci .i64 ys)] := HS.join (F := [blk g [.chan (some p)] 46, chn p ca (xs.map fun n : Int => Value.int .i64 n)]) (G := [blk g [.chan (some p)] 46, chn p ca ((xs ++ [m]).map fun n : Int => Value.int .i64 n)]) H_
      clear H_
      refine t_q (n := 3) 7 (.bool true) rfl (by kernel_rfl) (by kernel_rfl) (fun _ _ _ h => h) (fun w' hk => (by kernel_rfl)) HK ?_
      obtain ⟨W20, hrun_, H_, hk_⟩ := ex_ks (P := Try.prog) (ty := 0) (ps := "law.go:23") (af := #[{ on := 0, ground := Go.Ground.data }, { on := 5, ground := Go.Ground.chain }, { on := 0, ground := Go.Ground.phase }, { on := 1, ground := (Go.Ground.textOnly Go.Departure.lateStores) }, { on := 2, ground := (Go.Ground.textOnly Go.Departure.lateStores) }, { on := 3, ground := (Go.Ground.textOnly Go.Departure.lateStores) }, { on := 4, ground := (Go.Ground.textOnly Go.Departure.lateStores) }, { on := 5, ground := (Go.Ground.textOnly Go.Departure.lateStoresUnsure) }, { on := 6, ground := (Go.Ground.textOnly Go.Departure.lateStores) }, { on := 7, ground := (Go.Ground.textOnly Go.Departure.lateStores) }]) (gd := none) (t := 30) (x := (Go.Operand.tmp 10)) (y := (Go.Operand.tmp 44)) (v := .agg #[.slice A12 ((xs ++ [m]).length) c13, .int .i64 (ca : Int)]) HS 5 rfl (0) [.slice A12 ((xs ++ [m]).length) c13, .int .i64 (ca : Int)] (by kernel_rfl) (by kernel_rfl) (by kernel_rfl) (by kernel_rfl) (one_ (by kernel_rfl)) (Nat.le_of_ble_eq_true rfl)
      replace HK := HK.trans hk_ (fun _ h_ => .inl (.inr (.inr (.inl (blk_own h_)))))
      refine t_s (n := 2) 8 rfl (by kernel_rfl) (by kernel_rfl) hrun_ HK ?_
      clear hk_ hrun_
      replace HS : St W M W20 [blk g [.chan (some p)] 46, chn p ca ((xs ++ [m]).map fun n : Int => Value.int .i64 n), blk g15 [.slice A12 ((xs ++ [m]).length) c13, .int .i64 (ca : Int)] 30, rde A12 (ci .i64 (xs ++ [m])), blk g9 [.slice none 0 0, .int .i64 0] 30, blk g7 [.slice A12 ((xs ++ [m]).length) c13, .int .i64 (ca : Int)] 30, blk g5 [.int .i64 k, .int .i64 m] 34, blk g3 [.slice B ys.length d, .int .i64 (cb : Int)] 30, blk g1 [.slice A xs.length c, .int .i64 (ca : Int)] 30, blk h [.chan (some q)] 46, chn q cb (ys.map fun n : Int => Value.int .i64 n), rde B (ci .i64 ys)] := H_
      clear H_
      obtain ⟨W21, hrun_, H_, hk_⟩ := ex_ks (P := Try.prog) (ty := 0) (ps := "law.go:23") (af := #[{ on := 1, ground := Go.Ground.data }, { on := 8, ground := Go.Ground.chain }, { on := 0, ground := Go.Ground.phase }, { on := 1, ground := Go.Ground.phase }, { on := 2, ground := (Go.Ground.textOnly Go.Departure.lateStores) }, { on := 3, ground := (Go.Ground.textOnly Go.Departure.lateStores) }, { on := 4, ground := (Go.Ground.textOnly Go.Departure.lateStores) }, { on := 5, ground := (Go.Ground.textOnly Go.Departure.lateStoresUnsure) }, { on := 6, ground := (Go.Ground.textOnly Go.Departure.lateStores) }, { on := 7, ground := (Go.Ground.textOnly Go.Departure.lateStores) }, { on := 8, ground := Go.Ground.phase }]) (gd := none) (t := 30) (x := (Go.Operand.tmp 11)) (y := (Go.Operand.tmp 45)) (v := .agg #[.slice B ys.length d, .int .i64 (cb : Int)]) HS 4 rfl (0) [.slice B ys.length d, .int .i64 (cb : Int)] (by kernel_rfl) (by kernel_rfl) (by kernel_rfl) (by kernel_rfl) (one_ (by kernel_rfl)) (Nat.le_of_ble_eq_true rfl)
      replace HK := HK.trans hk_ (fun _ h_ => .inl (.inr (.inr (.inr (blk_own h_)))))
      refine t_s (n := 1) 9 rfl (by kernel_rfl) (by kernel_rfl) hrun_ HK ?_
      clear hk_ hrun_
      replace HS : St W M W21 [blk g [.chan (some p)] 46, chn p ca ((xs ++ [m]).map fun n : Int => Value.int .i64 n), blk g15 [.slice A12 ((xs ++ [m]).length) c13, .int .i64 (ca : Int)] 30, rde A12 (ci .i64 (xs ++ [m])), blk g9 [.slice B ys.length d, .int .i64 (cb : Int)] 30, blk g7 [.slice A12 ((xs ++ [m]).length) c13, .int .i64 (ca : Int)] 30, blk g5 [.int .i64 k, .int .i64 m] 34, blk g3 [.slice B ys.length d, .int .i64 (cb : Int)] 30, blk g1 [.slice A xs.length c, .int .i64 (ca : Int)] 30, blk h [.chan (some q)] 46, chn q cb (ys.map fun n : Int => Value.int .i64 n), rde B (ci .i64 ys)] := H_
      clear H_
      refine t_q (n := 0) 10 (.bool true) rfl (by kernel_rfl) (by kernel_rfl) (fun _ _ _ h => h) (fun w' hk => (by kernel_rfl)) HK ?_
      refine t_done (by kernel_rfl) ?_
      clear HV HK
      refine x_then ?_
      refine wp_ret ?_
      refine x_inbR ?_
      refine x_thenR ?_
      refine ret_ (.tuple #[.agg #[.slice A12 ((xs ++ [m]).length) c13, .int .i64 (ca : Int)], .agg #[.slice B ys.length d, .int .i64 (cb : Int)], .bool true]) (res3 rfl (oneRes_agg (p := ⟨g7, 0, none⟩) [.slice A12 ((xs ++ [m]).length) c13, .int .i64 (ca : Int)] (by kernel_rfl) (by kernel_rfl) (by kernel_rfl) (by kernel_rfl) (HS.cellsN (i := 5) rfl)) (oneRes_agg (p := ⟨g9, 0, none⟩) [.slice B ys.length d, .int .i64 (cb : Int)] (by kernel_rfl) (by kernel_rfl) (by kernel_rfl) (by kernel_rfl) (HS.cellsN (i := 4) rfl)) (oneRes_t (by kernel_rfl))) ?_
      replace HS : St W M W21 [blk g [.chan (some p)] 46, chn p ca ((xs ++ [m]).map fun n : Int => Value.int .i64 n), blk h [.chan (some q)] 46, chn q cb (ys.map fun n : Int => Value.int .i64 n), rde A12 (ci .i64 (xs ++ [m])), rde B (ci .i64 ys)] := St.tail (F := [blk g15 [.slice A12 ((xs ++ [m]).length) c13, .int .i64 (ca : Int)] 30, blk g9 [.slice B ys.length d, .int .i64 (cb : Int)] 30, blk g7 [.slice A12 ((xs ++ [m]).length) c13, .int .i64 (ca : Int)] 30, blk g5 [.int .i64 k, .int .i64 m] 34, blk g3 [.slice B ys.length d, .int .i64 (cb : Int)] 30, blk g1 [.slice A xs.length c, .int .i64 (ca : Int)] 30]) (HS.perm (perm_ [2, 4, 5, 6, 7, 8, 0, 1, 9, 10, 3, 11] (by kernel_rfl) rfl))
      exact ⟨(xs ++ [m]), ys, _, _, _, _, rfl, HS, by first | omega | (simp only [List.length_append, List.length_cons, List.length_nil, List.length_tail, List.length_drop, List.length_take]; omega), by first | omega | (simp only [List.length_append, List.length_cons, List.length_nil, List.length_tail, List.length_drop, List.length_take]; omega), by first | omega | (simp only [List.length_append, List.length_cons, List.length_nil, List.length_tail, List.length_drop, List.length_take]; omega), by first | omega | (simp only [List.length_append, List.length_cons, List.length_nil, List.length_tail, List.length_drop, List.length_take]; omega)⟩
    · skip
      refine (rpput_full _ c xs (ca : Int) m _ (HS.get (i := 9) rfl) (by omega) (by omega)).mono ?_
      rintro e W22 ⟨rfl, H_⟩
      refine ⟨_, rfl, ?_⟩
      replace HS : St W M W22 [blk g9 [.slice none 0 0, .int .i64 0] 30, blk g7 [.slice none 0 0, .int .i64 0] 30, blk g5 [.int .i64 k, .int .i64 m] 34, blk g3 [.slice B ys.length d, .int .i64 (cb : Int)] 30, blk g1 [.slice A xs.length c, .int .i64 (ca : Int)] 30, blk g [.chan (some p)] 46, chn p ca (xs.map fun n : Int => Value.int .i64 n), blk h [.chan (some q)] 46, chn q cb (ys.map fun n : Int => Value.int .i64 n), rde A (ci .i64 xs), rde B (ci .i64 ys)] := HS.join (F := []) (G := []) H_
      clear H_
      refine ql (.tuple #[.agg #[.slice A xs.length c, .int .i64 (ca : Int)], .bool false]) (by kernel_rfl) (by kernel_rfl) ?_
      refine ql (.agg #[.slice A xs.length c, .int .i64 (ca : Int)]) (by kernel_rfl) (by kernel_rfl) ?_
      refine ql (.bool false) (by kernel_rfl) (by kernel_rfl) ?_
      refine kb HS [.slice none 0 0, .int .i64 0] 30 (fun g => .pointer (some ⟨g, 0, none⟩)) (by kernel_rfl) (by kernel_rfl) ?_
      intro g23 W24 H_
      replace HS : St W M W24 [blk g23 [.slice none 0 0, .int .i64 0] 30, blk g9 [.slice none 0 0, .int .i64 0] 30, blk g7 [.slice none 0 0, .int .i64 0] 30, blk g5 [.int .i64 k, .int .i64 m] 34, blk g3 [.slice B ys.length d, .int .i64 (cb : Int)] 30, blk g1 [.slice A xs.length c, .int .i64 (ca : Int)] 30, blk g [.chan (some p)] 46, chn p ca (xs.map fun n : Int => Value.int .i64 n), blk h [.chan (some q)] 46, chn q cb (ys.map fun n : Int => Value.int .i64 n), rde A (ci .i64 xs), rde B (ci .i64 ys)] := H_
      clear H_
      refine ks (v := .agg #[.slice A xs.length c, .int .i64 (ca : Int)]) HS 0 rfl (0) [.slice A xs.length c, .int .i64 (ca : Int)] (by kernel_rfl) (by kernel_rfl) (by kernel_rfl) (by kernel_rfl) (by kernel_rfl) (one_ (by kernel_rfl)) (Nat.le_of_ble_eq_true rfl) rfl ?_
      intro W25 H_
      replace HS : St W M W25 [blk g23 [.slice A xs.length c, .int .i64 (ca : Int)] 30, blk g9 [.slice none 0 0, .int .i64 0] 30, blk g7 [.slice none 0 0, .int .i64 0] 30, blk g5 [.int .i64 k, .int .i64 m] 34, blk g3 [.slice B ys.length d, .int .i64 (cb : Int)] 30, blk g1 [.slice A xs.length c, .int .i64 (ca : Int)] 30, blk g [.chan (some p)] 46, chn p ca (xs.map fun n : Int => Value.int .i64 n), blk h [.chan (some q)] 46, chn q cb (ys.map fun n : Int => Value.int .i64 n), rde A (ci .i64 xs), rde B (ci .i64 ys)] := H_
      clear H_
      refine ql (.bool false) (by kernel_rfl) (by kernel_rfl) ?_
      refine wpList_nil ?_
      refine x_then ?_
      refine wp_seq ?_
      replace HS : St W M W25 [blk g [.chan (some p)] 46, chn p ca (xs.map fun n : Int => Value.int .i64 n), blk g23 [.slice A xs.length c, .int .i64 (ca : Int)] 30, blk g9 [.slice none 0 0, .int .i64 0] 30, blk g7 [.slice none 0 0, .int .i64 0] 30, blk g5 [.int .i64 k, .int .i64 m] 34, blk g3 [.slice B ys.length d, .int .i64 (cb : Int)] 30, blk g1 [.slice A xs.length c, .int .i64 (ca : Int)] 30, blk h [.chan (some q)] 46, chn q cb (ys.map fun n : Int => Value.int .i64 n), rde A (ci .i64 xs), rde B (ci .i64 ys)] := HS.perm (perm_ [6, 7, 0, 1, 2, 3, 4, 5, 8, 9, 10, 11] (by kernel_rfl) rfl)
      refine t_start HS (fun k_ => (blk g [.chan (some p)] 46).own k_ ∨ (chn p ca (xs.map fun n : Int => Value.int .i64 n)).own k_ ∨ (blk g7 [.slice none 0 0, .int .i64 0] 30).own k_ ∨ (blk g9 [.slice none 0 0, .int .i64 0] 30).own k_) 11 (by kernel_rfl) rfl ?_
      intro W26 H_ HD_
      clear HD_
      replace HS : St W M W26 [blk g [.chan (some p)] 46, chn p ca (xs.map fun n : Int => Value.int .i64 n), blk g23 [.slice A xs.length c, .int .i64 (ca : Int)] 30, blk g9 [.slice none 0 0, .int .i64 0] 30, blk g7 [.slice none 0 0, .int .i64 0] 30, blk g5 [.int .i64 k, .int .i64 m] 34, blk g3 [.slice B ys.length d, .int .i64 (cb : Int)] 30, blk g1 [.slice A xs.length c, .int .i64 (ca : Int)] 30, blk h [.chan (some q)] 46, chn q cb (ys.map fun n : Int => Value.int .i64 n), rde A (ci .i64 xs), rde B (ci .i64 ys)] := H_
      clear H_
      have HV := HS
      have HK := Kpt.refl (fun k_ => (blk g [.chan (some p)] 46).own k_ ∨ (chn p ca (xs.map fun n : Int => Value.int .i64 n)).own k_ ∨ (blk g7 [.slice none 0 0, .int .i64 0] 30).own k_ ∨ (blk g9 [.slice none 0 0, .int .i64 0] 30).own k_) W26
      refine t_q (n := 10) 0 (.agg #[.slice A xs.length c, .int .i64 (ca : Int)]) rfl (by kernel_rfl) (by kernel_rfl) (fun _ _ _ h => h) (fun w' hk => (R_loadN (p := ⟨g23, 0, none⟩) [.slice A xs.length c, .int .i64 (ca : Int)] (by kernel_rfl) (by kernel_rfl) (by kernel_rfl) (by kernel_rfl) (two_at (hk.cellN (fun h_ => h_.elim (HV.sepB (a := 2) (b := 0) (by decide) rfl rfl) (fun h_ => h_.elim (HV.sepB (a := 2) (b := 1) (by decide) rfl rfl) (fun h_ => h_.elim (HV.sepB (a := 2) (b := 4) (by decide) rfl rfl) (HV.sepB (a := 2) (b := 3) (by decide) rfl rfl)))) (HV.cell (i := 2) (j := 0) rfl rfl)) (hk.cellN (fun h_ => h_.elim (HV.sepB (a := 2) (b := 0) (by decide) rfl rfl) (fun h_ => h_.elim (HV.sepB (a := 2) (b := 1) (by decide) rfl rfl) (fun h_ => h_.elim (HV.sepB (a := 2) (b := 4) (by decide) rfl rfl) (HV.sepB (a := 2) (b := 3) (by decide) rfl rfl)))) (HV.cell (i := 2) (j := 1) rfl rfl))))) HK ?_
      refine t_q (n := 9) 1 (.agg #[.slice B ys.length d, .int .i64 (cb : Int)]) rfl (by kernel_rfl) (by kernel_rfl) (fun _ _ _ h => h) (fun w' hk => (R_loadN (p := ⟨g3, 0, none⟩) [.slice B ys.length d, .int .i64 (cb : Int)] (by kernel_rfl) (by kernel_rfl) (by kernel_rfl) (by kernel_rfl) (two_at (hk.cellN (fun h_ => h_.elim (HV.sepB (a := 6) (b := 0) (by decide) rfl rfl) (fun h_ => h_.elim (HV.sepB (a := 6) (b := 1) (by decide) rfl rfl) (fun h_ => h_.elim (HV.sepB (a := 6) (b := 4) (by decide) rfl rfl) (HV.sepB (a := 6) (b := 3) (by decide) rfl rfl)))) (HV.cell (i := 6) (j := 0) rfl rfl)) (hk.cellN (fun h_ => h_.elim (HV.sepB (a := 6) (b := 0) (by decide) rfl rfl) (fun h_ => h_.elim (HV.sepB (a := 6) (b := 1) (by decide) rfl rfl) (fun h_ => h_.elim (HV.sepB (a := 6) (b := 4) (by decide) rfl rfl) (HV.sepB (a := 6) (b := 3) (by decide) rfl rfl)))) (HV.cell (i := 6) (j := 1) rfl rfl))))) HK ?_
      refine t_q (n := 8) 2 (.pointer (some ⟨g, 0, none⟩)) rfl (by kernel_rfl) (by kernel_rfl) (fun _ _ _ h => h) (fun w' hk => (by kernel_rfl)) HK ?_
      refine t_q (n := 7) 3 (.pointer (some ⟨g5, 1, none⟩)) rfl (by kernel_rfl) (by kernel_rfl) (fun _ _ _ h => h) (fun w' hk => (by kernel_rfl)) HK ?_
      refine t_q (n := 6) 4 (.int .i64 m) rfl (by kernel_rfl) (by kernel_rfl) (fun _ _ _ h => h) (fun w' hk => (R_load (p := ⟨g5, 1, none⟩) (by kernel_rfl) (by kernel_rfl) (by kernel_rfl) (hk.cellN (fun h_ => h_.elim (HV.sepB (a := 5) (b := 0) (by decide) rfl rfl) (fun h_ => h_.elim (HV.sepB (a := 5) (b := 1) (by decide) rfl rfl) (fun h_ => h_.elim (HV.sepB (a := 5) (b := 4) (by decide) rfl rfl) (HV.sepB (a := 5) (b := 3) (by decide) rfl rfl)))) (HV.cell (i := 5) (j := 1) rfl rfl)))) HK ?_
      refine t_q (n := 5) 6 (.bool false) rfl (by kernel_rfl) (by kernel_rfl) (fun _ _ _ h => h) (fun w' hk => (by kernel_rfl)) HK ?_
      refine t_c (n := 4) 5 (f := 16) (args := #[.pointer (some ⟨g, 0, none⟩), .int .i64 m]) rfl (by kernel_rfl) (by kernel_rfl) (R_call #[.pointer (some ⟨g, 0, none⟩), .int .i64 m] Try.func16 (by kernel_rfl) (by kernel_rfl) (by kernel_rfl)) ?_
      refine (pput_full g p 46 ca xs m _ _ (St.focus (F := [blk g [.chan (some p)] 46, chn p ca (xs.map fun n : Int => Value.int .i64 n)]) HS) (by omega)).mono ?_
      rintro e W27 ⟨rfl, H_⟩
      have hkf_ : ∀ k_, owns [blk g [.chan (some p)] 46, chn p ca (xs.map fun n : Int => Value.int .i64 n)] k_ → (blk g [.chan (some p)] 46).own k_ ∨ (chn p ca (xs.map fun n : Int => Value.int .i64 n)).own k_ ∨ (blk g7 [.slice none 0 0, .int .i64 0] 30).own k_ ∨ (blk g9 [.slice none 0 0, .int .i64 0] 30).own k_ := by
        intro k_ h_; obtain ⟨e_, he_, ho_⟩ := h_; simp only [List.mem_cons, List.not_mem_nil, or_false] at he_; rcases he_ with rfl | rfl <;> first | exact (.inl ho_) | exact (.inr (.inl ho_)) | exact (.inr (.inr (.inl ho_))) | exact (.inr (.inr (.inr ho_)))
      refine ⟨_, rfl, HK.trans H_.kept (fun _ h_ => .inl (hkf_ _ h_)), ?_⟩
      replace HK := HK.trans H_.kept (fun _ h_ => .inl (hkf_ _ h_))
      replace HS : St W M W27 [blk g [.chan (some p)] 46, chn p ca (xs.map fun n : Int => Value.int .i64 n), blk g23 [.slice A xs.length c, .int .i64 (ca : Int)] 30, blk g9 [.slice none 0 0, .int .i64 0] 30, blk g7 [.slice none 0 0, .int .i64 0] 30, blk g5 [.int .i64 k, .int .i64 m] 34, blk g3 [.slice B ys.length d, .int .i64 (cb : Int)] 30, blk g1 [.slice A xs.length c, .int .i64 (ca : Int)] 30, blk h [.chan (some q)] 46, chn q cb (ys.map fun n : Int => Value.int .i64 n), rde A (ci .i64 xs), rde B (ci .i64 ys)] := HS.join (F := [blk g [.chan (some p)] 46, chn p ca (xs.map fun n : Int => Value.int .i64 n)]) (G := [blk g [.chan (some p)] 46, chn p ca (xs.map fun n : Int => Value.int .i64 n)]) H_
      clear H_
      refine t_q (n := 3) 7 (.bool true) rfl (by kernel_rfl) (by kernel_rfl) (fun _ _ _ h => h) (fun w' hk => (by kernel_rfl)) HK ?_
      obtain ⟨W28, hrun_, H_, hk_⟩ := ex_ks (P := Try.prog) (ty := 0) (ps := "law.go:23") (af := #[{ on := 0, ground := Go.Ground.data }, { on := 5, ground := Go.Ground.chain }, { on := 0, ground := Go.Ground.phase }, { on := 1, ground := (Go.Ground.textOnly Go.Departure.lateStores) }, { on := 2, ground := (Go.Ground.textOnly Go.Departure.lateStores) }, { on := 3, ground := (Go.Ground.textOnly Go.Departure.lateStores) }, { on := 4, ground := (Go.Ground.textOnly Go.Departure.lateStores) }, { on := 5, ground := (Go.Ground.textOnly Go.Departure.lateStoresUnsure) }, { on := 6, ground := (Go.Ground.textOnly Go.Departure.lateStores) }, { on := 7, ground := (Go.Ground.textOnly Go.Departure.lateStores) }]) (gd := none) (t := 30) (x := (Go.Operand.tmp 10)) (y := (Go.Operand.tmp 44)) (v := .agg #[.slice A xs.length c, .int .i64 (ca : Int)]) HS 4 rfl (0) [.slice A xs.length c, .int .i64 (ca : Int)] (by kernel_rfl) (by kernel_rfl) (by kernel_rfl) (by kernel_rfl) (one_ (by kernel_rfl)) (Nat.le_of_ble_eq_true rfl)
      replace HK := HK.trans hk_ (fun _ h_ => .inl (.inr (.inr (.inl (blk_own h_)))))
      refine t_s (n := 2) 8 rfl (by kernel_rfl) (by kernel_rfl) hrun_ HK ?_
      clear hk_ hrun_
      replace HS : St W M W28 [blk g [.chan (some p)] 46, chn p ca (xs.map fun n : Int => Value.int .i64 n), blk g23 [.slice A xs.length c, .int .i64 (ca : Int)] 30, blk g9 [.slice none 0 0, .int .i64 0] 30, blk g7 [.slice A xs.length c, .int .i64 (ca : Int)] 30, blk g5 [.int .i64 k, .int .i64 m] 34, blk g3 [.slice B ys.length d, .int .i64 (cb : Int)] 30, blk g1 [.slice A xs.length c, .int .i64 (ca : Int)] 30, blk h [.chan (some q)] 46, chn q cb (ys.map fun n : Int => Value.int .i64 n), rde A (ci .i64 xs), rde B (ci .i64 ys)] := H_
      clear H_
      obtain ⟨W29, hrun_, H_, hk_⟩ := ex_ks (P := Try.prog) (ty := 0) (ps := "law.go:23") (af := #[{ on := 1, ground := Go.Ground.data }, { on := 8, ground := Go.Ground.chain }, { on := 0, ground := Go.Ground.phase }, { on := 1, ground := Go.Ground.phase }, { on := 2, ground := (Go.Ground.textOnly Go.Departure.lateStores) }, { on := 3, ground := (Go.Ground.textOnly Go.Departure.lateStores) }, { on := 4, ground := (Go.Ground.textOnly Go.Departure.lateStores) }, { on := 5, ground := (Go.Ground.textOnly Go.Departure.lateStoresUnsure) }, { on := 6, ground := (Go.Ground.textOnly Go.Departure.lateStores) }, { on := 7, ground := (Go.Ground.textOnly Go.Departure.lateStores) }, { on := 8, ground := Go.Ground.phase }]) (gd := none) (t := 30) (x := (Go.Operand.tmp 11)) (y := (Go.Operand.tmp 45)) (v := .agg #[.slice B ys.length d, .int .i64 (cb : Int)]) HS 3 rfl (0) [.slice B ys.length d, .int .i64 (cb : Int)] (by kernel_rfl) (by kernel_rfl) (by kernel_rfl) (by kernel_rfl) (one_ (by kernel_rfl)) (Nat.le_of_ble_eq_true rfl)
      replace HK := HK.trans hk_ (fun _ h_ => .inl (.inr (.inr (.inr (blk_own h_)))))
      refine t_s (n := 1) 9 rfl (by kernel_rfl) (by kernel_rfl) hrun_ HK ?_
      clear hk_ hrun_
      replace HS : St W M W29 [blk g [.chan (some p)] 46, chn p ca (xs.map fun n : Int => Value.int .i64 n), blk g23 [.slice A xs.length c, .int .i64 (ca : Int)] 30, blk g9 [.slice B ys.length d, .int .i64 (cb : Int)] 30, blk g7 [.slice A xs.length c, .int .i64 (ca : Int)] 30, blk g5 [.int .i64 k, .int .i64 m] 34, blk g3 [.slice B ys.length d, .int .i64 (cb : Int)] 30, blk g1 [.slice A xs.length c, .int .i64 (ca : Int)] 30, blk h [.chan (some q)] 46, chn q cb (ys.map fun n : Int => Value.int .i64 n), rde A (ci .i64 xs), rde B (ci .i64 ys)] := H_
      clear H_
      refine t_q (n := 0) 10 (.bool true) rfl (by kernel_rfl) (by kernel_rfl) (fun _ _ _ h => h) (fun w' hk => (by kernel_rfl)) HK ?_
      refine t_done (by kernel_rfl) ?_
      clear HV HK
      refine x_then ?_
      refine wp_ret ?_
      refine x_inbR ?_
      refine x_thenR ?_
      refine ret_ (.tuple #[.agg #[.slice A xs.length c, .int .i64 (ca : Int)], .agg #[.slice B ys.length d, .int .i64 (cb : Int)], .bool true]) (res3 rfl (oneRes_agg (p := ⟨g7, 0, none⟩) [.slice A xs.length c, .int .i64 (ca : Int)] (by kernel_rfl) (by kernel_rfl) (by kernel_rfl) (by kernel_rfl) (HS.cellsN (i := 4) rfl)) (oneRes_agg (p := ⟨g9, 0, none⟩) [.slice B ys.length d, .int .i64 (cb : Int)] (by kernel_rfl) (by kernel_rfl) (by kernel_rfl) (by kernel_rfl) (HS.cellsN (i := 3) rfl)) (oneRes_t (by kernel_rfl))) ?_
      replace HS : St W M W29 [blk g [.chan (some p)] 46, chn p ca (xs.map fun n : Int => Value.int .i64 n), blk h [.chan (some q)] 46, chn q cb (ys.map fun n : Int => Value.int .i64 n), rde A (ci .i64 xs), rde B (ci .i64 ys)] := St.tail (F := [blk g23 [.slice A xs.length c, .int .i64 (ca : Int)] 30, blk g9 [.slice B ys.length d, .int .i64 (cb : Int)] 30, blk g7 [.slice A xs.length c, .int .i64 (ca : Int)] 30, blk g5 [.int .i64 k, .int .i64 m] 34, blk g3 [.slice B ys.length d, .int .i64 (cb : Int)] 30, blk g1 [.slice A xs.length c, .int .i64 (ca : Int)] 30]) (HS.perm (perm_ [2, 3, 4, 5, 6, 7, 0, 1, 8, 9, 10, 11] (by kernel_rfl) rfl))
      exact ⟨xs, ys, _, _, _, _, rfl, HS, by first | omega | (simp only [List.length_append, List.length_cons, List.length_nil, List.length_tail, List.length_drop, List.length_take]; omega), by first | omega | (simp only [List.length_append, List.length_cons, List.length_nil, List.length_tail, List.length_drop, List.length_take]; omega), by first | omega | (simp only [List.length_append, List.length_cons, List.length_nil, List.length_tail, List.length_drop, List.length_take]; omega), by first | omega | (simp only [List.length_append, List.length_cons, List.length_nil, List.length_tail, List.length_drop, List.length_take]; omega)⟩
  · skip
    refine ql (.bool false) (by kernel_rfl) (R_beq (b := (k == (0 : Int))) (by kernel_rfl) (beq_f (hc11))) ?_
    refine ql (.bool false) (by kernel_rfl) (by kernel_rfl) ?_
    refine wpList_nil ?_
    refine x_then ?_
    refine wp_cond_false (by kernel_rfl) ?_
    refine wp_seq ?_
    refine wp_region_lit ?_
    by_cases hc30 : k = (1 : Int)
    · skip
      refine ql (.bool true) (by kernel_rfl) (R_beq (b := (k == (1 : Int))) (by kernel_rfl) (beq_t (hc30))) ?_
      refine ql (.bool true) (by kernel_rfl) (by kernel_rfl) ?_
      refine wpList_nil ?_
      refine x_then ?_
      refine wp_cond_true (by kernel_rfl) ?_
      refine wp_seq ?_
      refine wp_region_lit ?_
      refine ql (.agg #[.slice A xs.length c, .int .i64 (ca : Int)]) (by kernel_rfl) (R_loadN (p := ⟨g1, 0, none⟩) [.slice A xs.length c, .int .i64 (ca : Int)] (by kernel_rfl) (by kernel_rfl) (by kernel_rfl) (by kernel_rfl) (two_at (HS.cell (i := 4) (j := 0) rfl rfl) (HS.cell (i := 4) (j := 1) rfl rfl))) ?_
      refine qc (f := 17) (args := #[.agg #[.slice A xs.length c, .int .i64 (ca : Int)]]) (by kernel_rfl) (R_call #[.agg #[.slice A xs.length c, .int .i64 (ca : Int)]] Try.func17 (by kernel_rfl) (by kernel_rfl) (by kernel_rfl)) ?_
      by_cases hsm : 0 < xs.length
      · skip
        refine (rpget_some _ c xs (ca : Int) _ (HS.get (i := 9) rfl) (by omega) (by omega) (by omega)).mono ?_
        rintro e W31 ⟨rfl, H_⟩
        refine ⟨_, rfl, ?_⟩
        replace HS : St W M W31 [blk g9 [.slice none 0 0, .int .i64 0] 30, blk g7 [.slice none 0 0, .int .i64 0] 30, blk g5 [.int .i64 k, .int .i64 m] 34, blk g3 [.slice B ys.length d, .int .i64 (cb : Int)] 30, blk g1 [.slice A xs.length c, .int .i64 (ca : Int)] 30, blk g [.chan (some p)] 46, chn p ca (xs.map fun n : Int => Value.int .i64 n), blk h [.chan (some q)] 46, chn q cb (ys.map fun n : Int => Value.int .i64 n), rde A (ci .i64 xs), rde B (ci .i64 ys)] := HS.join (F := []) (G := []) H_
        clear H_
        replace HS : St W M W31 [blk g9 [.slice none 0 0, .int .i64 0] 30, blk g7 [.slice none 0 0, .int .i64 0] 30, blk g5 [.int .i64 k, .int .i64 m] 34, blk g3 [.slice B ys.length d, .int .i64 (cb : Int)] 30, blk g1 [.slice A xs.length c, .int .i64 (ca : Int)] 30, blk g [.chan (some p)] 46, chn p ca (xs.map fun n : Int => Value.int .i64 n), blk h [.chan (some q)] 46, chn q cb (ys.map fun n : Int => Value.int .i64 n), rde (cutA A c 1 1) (ci .i64 xs.tail), rde B (ci .i64 ys)] := (HS.rde_sub (i := 9) rfl (fun h_ => rd_cut (c := c) (m := 1) h_ (by omega) (by rw [ci_len]; omega)) cutA_own).cast_ (by rw [ci_drop, List.drop_one]; rfl)
        refine ql (.tuple #[.agg #[.slice (cutA A c 1 1) xs.tail.length (c - 1), .int .i64 (ca : Int)], .int .i64 (rdI xs 0), .bool true]) (by kernel_rfl) (by kernel_rfl) ?_
        refine ql (.agg #[.slice (cutA A c 1 1) xs.tail.length (c - 1), .int .i64 (ca : Int)]) (by kernel_rfl) (by kernel_rfl) ?_
        refine ql (.int .i64 (rdI xs 0)) (by kernel_rfl) (by kernel_rfl) ?_
        refine ql (.bool true) (by kernel_rfl) (by kernel_rfl) ?_
        refine kb HS [.slice none 0 0, .int .i64 0] 30 (fun g => .pointer (some ⟨g, 0, none⟩)) (by kernel_rfl) (by kernel_rfl) ?_
        intro g32 W33 H_
        replace HS : St W M W33 [blk g32 [.slice none 0 0, .int .i64 0] 30, blk g9 [.slice none 0 0, .int .i64 0] 30, blk g7 [.slice none 0 0, .int .i64 0] 30, blk g5 [.int .i64 k, .int .i64 m] 34, blk g3 [.slice B ys.length d, .int .i64 (cb : Int)] 30, blk g1 [.slice A xs.length c, .int .i64 (ca : Int)] 30, blk g [.chan (some p)] 46, chn p ca (xs.map fun n : Int => Value.int .i64 n), blk h [.chan (some q)] 46, chn q cb (ys.map fun n : Int => Value.int .i64 n), rde (cutA A c 1 1) (ci .i64 xs.tail), rde B (ci .i64 ys)] := H_
        clear H_
        refine ks (v := .agg #[.slice (cutA A c 1 1) xs.tail.length (c - 1), .int .i64 (ca : Int)]) HS 0 rfl (0) [.slice (cutA A c 1 1) xs.tail.length (c - 1), .int .i64 (ca : Int)] (by kernel_rfl) (by kernel_rfl) (by kernel_rfl) (by kernel_rfl) (by kernel_rfl) (one_ (by kernel_rfl)) (Nat.le_of_ble_eq_true rfl) rfl ?_
        intro W34 H_
        replace HS : St W M W34 [blk g32 [.slice (cutA A c 1 1) xs.tail.length (c - 1), .int .i64 (ca : Int)] 30, blk g9 [.slice none 0 0, .int .i64 0] 30, blk g7 [.slice none 0 0, .int .i64 0] 30, blk g5 [.int .i64 k, .int .i64 m] 34, blk g3 [.slice B ys.length d, .int .i64 (cb : Int)] 30, blk g1 [.slice A xs.length c, .int .i64 (ca : Int)] 30, blk g [.chan (some p)] 46, chn p ca (xs.map fun n : Int => Value.int .i64 n), blk h [.chan (some q)] 46, chn q cb (ys.map fun n : Int => Value.int .i64 n), rde (cutA A c 1 1) (ci .i64 xs.tail), rde B (ci .i64 ys)] := H_
        clear H_
        refine ql (.int .i64 (rdI xs 0)) (by kernel_rfl) (by kernel_rfl) ?_
        refine ql (.bool true) (by kernel_rfl) (by kernel_rfl) ?_
        refine wpList_nil ?_
        refine x_then ?_
        refine wp_seq ?_
        refine wp_region_lit ?_
        refine ql (.pointer (some ⟨g, 0, none⟩)) (by kernel_rfl) (by kernel_rfl) ?_
        refine qc (f := 18) (args := #[.pointer (some ⟨g, 0, none⟩)]) (by kernel_rfl) (R_call #[.pointer (some ⟨g, 0, none⟩)] Try.func18 (by kernel_rfl) (by kernel_rfl) (by kernel_rfl)) ?_
        replace HS : St W M W34 [blk g [.chan (some p)] 46, chn p ca (xs.map fun n : Int => Value.int .i64 n), blk g32 [.slice (cutA A c 1 1) xs.tail.length (c - 1), .int .i64 (ca : Int)] 30, blk g9 [.slice none 0 0, .int .i64 0] 30, blk g7 [.slice none 0 0, .int .i64 0] 30, blk g5 [.int .i64 k, .int .i64 m] 34, blk g3 [.slice B ys.length d, .int .i64 (cb : Int)] 30, blk g1 [.slice A xs.length c, .int .i64 (ca : Int)] 30, blk h [.chan (some q)] 46, chn q cb (ys.map fun n : Int => Value.int .i64 n), rde (cutA A c 1 1) (ci .i64 xs.tail), rde B (ci .i64 ys)] := HS.perm (perm_ [6, 7, 0, 1, 2, 3, 4, 5, 8, 9, 10, 11] (by kernel_rfl) rfl)
        refine (pget_ne g p ca xs _ _ (St.focus (F := [blk g [.chan (some p)] 46, chn p ca (xs.map fun n : Int => Value.int .i64 n)]) HS) hsm).mono ?_
        rintro e W35 ⟨rfl, H_⟩
        refine ⟨_, rfl, ?_⟩
        replace HS : St W M W35 [blk g [.chan (some p)] 46, chn p ca (xs.tail.map fun n : Int => Value.int .i64 n), blk g32 [.slice (cutA A c 1 1) xs.tail.length (c - 1), .int .i64 (ca : Int)] 30, blk g9 [.slice none 0 0, .int .i64 0] 30, blk g7 [.slice none 0 0, .int .i64 0] 30, blk g5 [.int .i64 k, .int .i64 m] 34, blk g3 [.slice B ys.length d, .int .i64 (cb : Int)] 30, blk g1 [.slice A xs.length c, .int .i64 (ca : Int)] 30, blk h [.chan (some q)] 46, chn q cb (ys.map fun n : Int => Value.int .i64 n), rde (cutA A c 1 1) (ci .i64 xs.tail), rde B (ci .i64 ys)] := HS.join (F := [blk g [.chan (some p)] 46, chn p ca (xs.map fun n : Int => Value.int .i64 n)]) (G := [blk g [.chan (some p)] 46, chn p ca (xs.tail.map fun n : Int => Value.int .i64 n)]) H_
        clear H_
        refine ql (.tuple #[.int .i64 (rdI xs 0), .bool true]) (by kernel_rfl) (by kernel_rfl) ?_
        refine ql (.int .i64 (rdI xs 0)) (by kernel_rfl) (by kernel_rfl) ?_
        refine ql (.bool true) (by kernel_rfl) (by kernel_rfl) ?_
        refine ql (.int .i64 (rdI xs 0)) (by kernel_rfl) (by kernel_rfl) ?_
        refine ql (.bool true) (by kernel_rfl) (by kernel_rfl) ?_
        refine wpList_nil ?_
        refine x_then ?_
        refine wp_seq ?_
        refine t_start HS (fun k_ => (blk g7 [.slice none 0 0, .int .i64 0] 30).own k_ ∨ (blk g9 [.slice none 0 0, .int .i64 0] 30).own k_) 13 (by kernel_rfl) rfl ?_
        intro W36 H_ HD_
        clear HD_
        replace HS : St W M W36 [blk g [.chan (some p)] 46, chn p ca (xs.tail.map fun n : Int => Value.int .i64 n), blk g32 [.slice (cutA A c 1 1) xs.tail.length (c - 1), .int .i64 (ca : Int)] 30, blk g9 [.slice none 0 0, .int .i64 0] 30, blk g7 [.slice none 0 0, .int .i64 0] 30, blk g5 [.int .i64 k, .int .i64 m] 34, blk g3 [.slice B ys.length d, .int .i64 (cb : Int)] 30, blk g1 [.slice A xs.length c, .int .i64 (ca : Int)] 30, blk h [.chan (some q)] 46, chn q cb (ys.map fun n : Int => Value.int .i64 n), rde (cutA A c 1 1) (ci .i64 xs.tail), rde B (ci .i64 ys)] := H_
        clear H_
        have HV := HS
        have HK := Kpt.refl (fun k_ => (blk g7 [.slice none 0 0, .int .i64 0] 30).own k_ ∨ (blk g9 [.slice none 0 0, .int .i64 0] 30).own k_) W36
        refine t_q (n := 12) 0 (.agg #[.slice (cutA A c 1 1) xs.tail.length (c - 1), .int .i64 (ca : Int)]) rfl (by kernel_rfl) (by kernel_rfl) (fun _ _ _ h => h) (fun w' hk => (R_loadN (p := ⟨g32, 0, none⟩) [.slice (cutA A c 1 1) xs.tail.length (c - 1), .int .i64 (ca : Int)] (by kernel_rfl) (by kernel_rfl) (by kernel_rfl) (by kernel_rfl) (two_at (hk.cellN (fun h_ => h_.elim (HV.sepB (a := 2) (b := 4) (by decide) rfl rfl) (HV.sepB (a := 2) (b := 3) (by decide) rfl rfl)) (HV.cell (i := 2) (j := 0) rfl rfl)) (hk.cellN (fun h_ => h_.elim (HV.sepB (a := 2) (b := 4) (by decide) rfl rfl) (HV.sepB (a := 2) (b := 3) (by decide) rfl rfl)) (HV.cell (i := 2) (j := 1) rfl rfl))))) HK ?_
        refine t_q (n := 11) 1 (.agg #[.slice B ys.length d, .int .i64 (cb : Int)]) rfl (by kernel_rfl) (by kernel_rfl) (fun _ _ _ h => h) (fun w' hk => (R_loadN (p := ⟨g3, 0, none⟩) [.slice B ys.length d, .int .i64 (cb : Int)] (by kernel_rfl) (by kernel_rfl) (by kernel_rfl) (by kernel_rfl) (two_at (hk.cellN (fun h_ => h_.elim (HV.sepB (a := 6) (b := 4) (by decide) rfl rfl) (HV.sepB (a := 6) (b := 3) (by decide) rfl rfl)) (HV.cell (i := 6) (j := 0) rfl rfl)) (hk.cellN (fun h_ => h_.elim (HV.sepB (a := 6) (b := 4) (by decide) rfl rfl) (HV.sepB (a := 6) (b := 3) (by decide) rfl rfl)) (HV.cell (i := 6) (j := 1) rfl rfl))))) HK ?_
        refine t_q (n := 10) 2 (.int .i64 (rdI xs 0)) rfl (by kernel_rfl) (by kernel_rfl) (fun _ _ _ h => h) (fun w' hk => (by kernel_rfl)) HK ?_
        refine t_q (n := 9) 3 (.int .i64 (rdI xs 0)) rfl (by kernel_rfl) (by kernel_rfl) (fun _ _ _ h => h) (fun w' hk => (by kernel_rfl)) HK ?_
        refine t_q (n := 8) 4 (.bool true) rfl (by kernel_rfl) (by kernel_rfl) (fun _ _ _ h => h) (fun w' hk => (R_beq (b := (rdI xs 0 == rdI xs 0)) (by kernel_rfl) (beq_t (by omega)))) HK ?_
        refine t_q (n := 7) 5 (.bool true) rfl (by kernel_rfl) (by kernel_rfl) (fun _ _ _ h => h) (fun w' hk => (by kernel_rfl)) HK ?_
        refine t_q (n := 6) 6 (.bool true) rfl (by kernel_rfl) (by kernel_rfl) (fun _ _ _ h => h) (fun w' hk => (by kernel_rfl)) HK ?_
        refine t_q (n := 5) 7 (.bool true) rfl (by kernel_rfl) (by kernel_rfl) (fun _ _ _ h => h) (fun w' hk => (by kernel_rfl)) HK ?_
        refine t_q (n := 4) 8 (.bool true) rfl (by kernel_rfl) (by kernel_rfl) (fun _ _ _ h => h) (fun w' hk => (by kernel_rfl)) HK ?_
        refine t_q (n := 3) 9 (.bool true) rfl (by kernel_rfl) (by kernel_rfl) (fun _ _ _ h => h) (fun w' hk => (by kernel_rfl)) HK ?_
        obtain ⟨W37, hrun_, H_, hk_⟩ := ex_ks (P := Try.prog) (ty := 0) (ps := "law.go:27") (af := #[{ on := 0, ground := Go.Ground.data }, { on := 5, ground := Go.Ground.chain }, { on := 0, ground := Go.Ground.phase }, { on := 1, ground := (Go.Ground.textOnly Go.Departure.lateStores) }, { on := 2, ground := (Go.Ground.textOnly Go.Departure.lateStores) }, { on := 3, ground := (Go.Ground.textOnly Go.Departure.lateStores) }, { on := 4, ground := (Go.Ground.textOnly Go.Departure.lateStores) }, { on := 5, ground := (Go.Ground.textOnly Go.Departure.lateStores) }, { on := 6, ground := (Go.Ground.textOnly Go.Departure.lateStores) }, { on := 7, ground := (Go.Ground.textOnly Go.Departure.lateStores) }, { on := 8, ground := (Go.Ground.textOnly Go.Departure.lateStores) }, { on := 9, ground := (Go.Ground.textOnly Go.Departure.lateStores) }]) (gd := none) (t := 30) (x := (Go.Operand.tmp 10)) (y := (Go.Operand.tmp 65)) (v := .agg #[.slice (cutA A c 1 1) xs.tail.length (c - 1), .int .i64 (ca : Int)]) HS 4 rfl (0) [.slice (cutA A c 1 1) xs.tail.length (c - 1), .int .i64 (ca : Int)] (by kernel_rfl) (by kernel_rfl) (by kernel_rfl) (by kernel_rfl) (one_ (by kernel_rfl)) (Nat.le_of_ble_eq_true rfl)
        replace HK := HK.trans hk_ (fun _ h_ => .inl (.inl (blk_own h_)))
        refine t_s (n := 2) 10 rfl (by kernel_rfl) (by kernel_rfl) hrun_ HK ?_
        clear hk_ hrun_
        replace HS : St W M W37 [blk g [.chan (some p)] 46, chn p ca (xs.tail.map fun n : Int => Value.int .i64 n), blk g32 [.slice (cutA A c 1 1) xs.tail.length (c - 1), .int .i64 (ca : Int)] 30, blk g9 [.slice none 0 0, .int .i64 0] 30, blk g7 [.slice (cutA A c 1 1) xs.tail.length (c - 1), .int .i64 (ca : Int)] 30, blk g5 [.int .i64 k, .int .i64 m] 34, blk g3 [.slice B ys.length d, .int .i64 (cb : Int)] 30, blk g1 [.slice A xs.length c, .int .i64 (ca : Int)] 30, blk h [.chan (some q)] 46, chn q cb (ys.map fun n : Int => Value.int .i64 n), rde (cutA A c 1 1) (ci .i64 xs.tail), rde B (ci .i64 ys)] := H_
        clear H_
        obtain ⟨W38, hrun_, H_, hk_⟩ := ex_ks (P := Try.prog) (ty := 0) (ps := "law.go:27") (af := #[{ on := 1, ground := Go.Ground.data }, { on := 10, ground := Go.Ground.chain }, { on := 0, ground := Go.Ground.phase }, { on := 1, ground := Go.Ground.phase }, { on := 2, ground := (Go.Ground.textOnly Go.Departure.lateStores) }, { on := 3, ground := (Go.Ground.textOnly Go.Departure.lateStores) }, { on := 4, ground := (Go.Ground.textOnly Go.Departure.lateStores) }, { on := 5, ground := (Go.Ground.textOnly Go.Departure.lateStores) }, { on := 6, ground := (Go.Ground.textOnly Go.Departure.lateStores) }, { on := 7, ground := (Go.Ground.textOnly Go.Departure.lateStores) }, { on := 8, ground := (Go.Ground.textOnly Go.Departure.lateStores) }, { on := 9, ground := (Go.Ground.textOnly Go.Departure.lateStores) }, { on := 10, ground := Go.Ground.phase }]) (gd := none) (t := 30) (x := (Go.Operand.tmp 11)) (y := (Go.Operand.tmp 66)) (v := .agg #[.slice B ys.length d, .int .i64 (cb : Int)]) HS 3 rfl (0) [.slice B ys.length d, .int .i64 (cb : Int)] (by kernel_rfl) (by kernel_rfl) (by kernel_rfl) (by kernel_rfl) (one_ (by kernel_rfl)) (Nat.le_of_ble_eq_true rfl)
        replace HK := HK.trans hk_ (fun _ h_ => .inl (.inr (blk_own h_)))
        refine t_s (n := 1) 11 rfl (by kernel_rfl) (by kernel_rfl) hrun_ HK ?_
        clear hk_ hrun_
        replace HS : St W M W38 [blk g [.chan (some p)] 46, chn p ca (xs.tail.map fun n : Int => Value.int .i64 n), blk g32 [.slice (cutA A c 1 1) xs.tail.length (c - 1), .int .i64 (ca : Int)] 30, blk g9 [.slice B ys.length d, .int .i64 (cb : Int)] 30, blk g7 [.slice (cutA A c 1 1) xs.tail.length (c - 1), .int .i64 (ca : Int)] 30, blk g5 [.int .i64 k, .int .i64 m] 34, blk g3 [.slice B ys.length d, .int .i64 (cb : Int)] 30, blk g1 [.slice A xs.length c, .int .i64 (ca : Int)] 30, blk h [.chan (some q)] 46, chn q cb (ys.map fun n : Int => Value.int .i64 n), rde (cutA A c 1 1) (ci .i64 xs.tail), rde B (ci .i64 ys)] := H_
        clear H_
        refine t_q (n := 0) 12 (.bool true) rfl (by kernel_rfl) (by kernel_rfl) (fun _ _ _ h => h) (fun w' hk => (by kernel_rfl)) HK ?_
        refine t_done (by kernel_rfl) ?_
        clear HV HK
        refine x_then ?_
        refine wp_ret ?_
        refine x_inbR ?_
        refine x_thenR ?_
        refine ret_ (.tuple #[.agg #[.slice (cutA A c 1 1) xs.tail.length (c - 1), .int .i64 (ca : Int)], .agg #[.slice B ys.length d, .int .i64 (cb : Int)], .bool true]) (res3 rfl (oneRes_agg (p := ⟨g7, 0, none⟩) [.slice (cutA A c 1 1) xs.tail.length (c - 1), .int .i64 (ca : Int)] (by kernel_rfl) (by kernel_rfl) (by kernel_rfl) (by kernel_rfl) (HS.cellsN (i := 4) rfl)) (oneRes_agg (p := ⟨g9, 0, none⟩) [.slice B ys.length d, .int .i64 (cb : Int)] (by kernel_rfl) (by kernel_rfl) (by kernel_rfl) (by kernel_rfl) (HS.cellsN (i := 3) rfl)) (oneRes_t (by kernel_rfl))) ?_
        replace HS : St W M W38 [blk g [.chan (some p)] 46, chn p ca (xs.tail.map fun n : Int => Value.int .i64 n), blk h [.chan (some q)] 46, chn q cb (ys.map fun n : Int => Value.int .i64 n), rde (cutA A c 1 1) (ci .i64 xs.tail), rde B (ci .i64 ys)] := St.tail (F := [blk g32 [.slice (cutA A c 1 1) xs.tail.length (c - 1), .int .i64 (ca : Int)] 30, blk g9 [.slice B ys.length d, .int .i64 (cb : Int)] 30, blk g7 [.slice (cutA A c 1 1) xs.tail.length (c - 1), .int .i64 (ca : Int)] 30, blk g5 [.int .i64 k, .int .i64 m] 34, blk g3 [.slice B ys.length d, .int .i64 (cb : Int)] 30, blk g1 [.slice A xs.length c, .int .i64 (ca : Int)] 30]) (HS.perm (perm_ [2, 3, 4, 5, 6, 7, 0, 1, 8, 9, 10, 11] (by kernel_rfl) rfl))
        exact ⟨xs.tail, ys, _, _, _, _, rfl, HS, by first | omega | (simp only [List.length_append, List.length_cons, List.length_nil, List.length_tail, List.length_drop, List.length_take]; omega), by first | omega | (simp only [List.length_append, List.length_cons, List.length_nil, List.length_tail, List.length_drop, List.length_take]; omega), by first | omega | (simp only [List.length_append, List.length_cons, List.length_nil, List.length_tail, List.length_drop, List.length_take]; omega), by first | omega | (simp only [List.length_append, List.length_cons, List.length_nil, List.length_tail, List.length_drop, List.length_take]; omega)⟩
      · skip
        refine (rpget_nil _ c xs (ca : Int) _ (HS.get (i := 9) rfl) (by omega) (by omega) (by omega)).mono ?_
        rintro e W39 ⟨rfl, H_⟩
        refine ⟨_, rfl, ?_⟩
        replace HS : St W M W39 [blk g9 [.slice none 0 0, .int .i64 0] 30, blk g7 [.slice none 0 0, .int .i64 0] 30, blk g5 [.int .i64 k, .int .i64 m] 34, blk g3 [.slice B ys.length d, .int .i64 (cb : Int)] 30, blk g1 [.slice A xs.length c, .int .i64 (ca : Int)] 30, blk g [.chan (some p)] 46, chn p ca (xs.map fun n : Int => Value.int .i64 n), blk h [.chan (some q)] 46, chn q cb (ys.map fun n : Int => Value.int .i64 n), rde A (ci .i64 xs), rde B (ci .i64 ys)] := HS.join (F := []) (G := []) H_
        clear H_
        refine ql (.tuple #[.agg #[.slice A xs.length c, .int .i64 (ca : Int)], .int .i64 0, .bool false]) (by kernel_rfl) (by kernel_rfl) ?_
        refine ql (.agg #[.slice A xs.length c, .int .i64 (ca : Int)]) (by kernel_rfl) (by kernel_rfl) ?_
        refine ql (.int .i64 0) (by kernel_rfl) (by kernel_rfl) ?_
        refine ql (.bool false) (by kernel_rfl) (by kernel_rfl) ?_
        refine kb HS [.slice none 0 0, .int .i64 0] 30 (fun g => .pointer (some ⟨g, 0, none⟩)) (by kernel_rfl) (by kernel_rfl) ?_
        intro g40 W41 H_
        replace HS : St W M W41 [blk g40 [.slice none 0 0, .int .i64 0] 30, blk g9 [.slice none 0 0, .int .i64 0] 30, blk g7 [.slice none 0 0, .int .i64 0] 30, blk g5 [.int .i64 k, .int .i64 m] 34, blk g3 [.slice B ys.length d, .int .i64 (cb : Int)] 30, blk g1 [.slice A xs.length c, .int .i64 (ca : Int)] 30, blk g [.chan (some p)] 46, chn p ca (xs.map fun n : Int => Value.int .i64 n), blk h [.chan (some q)] 46, chn q cb (ys.map fun n : Int => Value.int .i64 n), rde A (ci .i64 xs), rde B (ci .i64 ys)] := H_
        clear H_
        refine ks (v := .agg #[.slice A xs.length c, .int .i64 (ca : Int)]) HS 0 rfl (0) [.slice A xs.length c, .int .i64 (ca : Int)] (by kernel_rfl) (by kernel_rfl) (by kernel_rfl) (by kernel_rfl) (by kernel_rfl) (one_ (by kernel_rfl)) (Nat.le_of_ble_eq_true rfl) rfl ?_
        intro W42 H_
        replace HS : St W M W42 [blk g40 [.slice A xs.length c, .int .i64 (ca : Int)] 30, blk g9 [.slice none 0 0, .int .i64 0] 30, blk g7 [.slice none 0 0, .int .i64 0] 30, blk g5 [.int .i64 k, .int .i64 m] 34, blk g3 [.slice B ys.length d, .int .i64 (cb : Int)] 30, blk g1 [.slice A xs.length c, .int .i64 (ca : Int)] 30, blk g [.chan (some p)] 46, chn p ca (xs.map fun n : Int => Value.int .i64 n), blk h [.chan (some q)] 46, chn q cb (ys.map fun n : Int => Value.int .i64 n), rde A (ci .i64 xs), rde B (ci .i64 ys)] := H_
        clear H_
        refine ql (.int .i64 0) (by kernel_rfl) (by kernel_rfl) ?_
        refine ql (.bool false) (by kernel_rfl) (by kernel_rfl) ?_
        refine wpList_nil ?_
        refine x_then ?_
        refine wp_seq ?_
        refine wp_region_lit ?_
        refine ql (.pointer (some ⟨g, 0, none⟩)) (by kernel_rfl) (by kernel_rfl) ?_
        refine qc (f := 18) (args := #[.pointer (some ⟨g, 0, none⟩)]) (by kernel_rfl) (R_call #[.pointer (some ⟨g, 0, none⟩)] Try.func18 (by kernel_rfl) (by kernel_rfl) (by kernel_rfl)) ?_
        replace HS : St W M W42 [blk g [.chan (some p)] 46, chn p ca (xs.map fun n : Int => Value.int .i64 n), blk g40 [.slice A xs.length c, .int .i64 (ca : Int)] 30, blk g9 [.slice none 0 0, .int .i64 0] 30, blk g7 [.slice none 0 0, .int .i64 0] 30, blk g5 [.int .i64 k, .int .i64 m] 34, blk g3 [.slice B ys.length d, .int .i64 (cb : Int)] 30, blk g1 [.slice A xs.length c, .int .i64 (ca : Int)] 30, blk h [.chan (some q)] 46, chn q cb (ys.map fun n : Int => Value.int .i64 n), rde A (ci .i64 xs), rde B (ci .i64 ys)] := HS.perm (perm_ [6, 7, 0, 1, 2, 3, 4, 5, 8, 9, 10, 11] (by kernel_rfl) rfl)
        refine (pget_nl g p ca xs _ _ (St.focus (F := [blk g [.chan (some p)] 46, chn p ca (xs.map fun n : Int => Value.int .i64 n)]) HS) (by omega)).mono ?_
        rintro e W43 ⟨rfl, H_⟩
        refine ⟨_, rfl, ?_⟩
        replace HS : St W M W43 [blk g [.chan (some p)] 46, chn p ca (xs.map fun n : Int => Value.int .i64 n), blk g40 [.slice A xs.length c, .int .i64 (ca : Int)] 30, blk g9 [.slice none 0 0, .int .i64 0] 30, blk g7 [.slice none 0 0, .int .i64 0] 30, blk g5 [.int .i64 k, .int .i64 m] 34, blk g3 [.slice B ys.length d, .int .i64 (cb : Int)] 30, blk g1 [.slice A xs.length c, .int .i64 (ca : Int)] 30, blk h [.chan (some q)] 46, chn q cb (ys.map fun n : Int => Value.int .i64 n), rde A (ci .i64 xs), rde B (ci .i64 ys)] := HS.join (F := [blk g [.chan (some p)] 46, chn p ca (xs.map fun n : Int => Value.int .i64 n)]) (G := [blk g [.chan (some p)] 46, chn p ca (xs.map fun n : Int => Value.int .i64 n)]) H_
        clear H_
        refine ql (.tuple #[.int .i64 0, .bool false]) (by kernel_rfl) (by kernel_rfl) ?_
        refine ql (.int .i64 0) (by kernel_rfl) (by kernel_rfl) ?_
        refine ql (.bool false) (by kernel_rfl) (by kernel_rfl) ?_
        refine ql (.int .i64 0) (by kernel_rfl) (by kernel_rfl) ?_
        refine ql (.bool false) (by kernel_rfl) (by kernel_rfl) ?_
        refine wpList_nil ?_
        refine x_then ?_
        refine wp_seq ?_
        refine t_start HS (fun k_ => (blk g7 [.slice none 0 0, .int .i64 0] 30).own k_ ∨ (blk g9 [.slice none 0 0, .int .i64 0] 30).own k_) 13 (by kernel_rfl) rfl ?_
        intro W44 H_ HD_
        clear HD_
        replace HS : St W M W44 [blk g [.chan (some p)] 46, chn p ca (xs.map fun n : Int => Value.int .i64 n), blk g40 [.slice A xs.length c, .int .i64 (ca : Int)] 30, blk g9 [.slice none 0 0, .int .i64 0] 30, blk g7 [.slice none 0 0, .int .i64 0] 30, blk g5 [.int .i64 k, .int .i64 m] 34, blk g3 [.slice B ys.length d, .int .i64 (cb : Int)] 30, blk g1 [.slice A xs.length c, .int .i64 (ca : Int)] 30, blk h [.chan (some q)] 46, chn q cb (ys.map fun n : Int => Value.int .i64 n), rde A (ci .i64 xs), rde B (ci .i64 ys)] := H_
        clear H_
        have HV := HS
        have HK := Kpt.refl (fun k_ => (blk g7 [.slice none 0 0, .int .i64 0] 30).own k_ ∨ (blk g9 [.slice none 0 0, .int .i64 0] 30).own k_) W44
        refine t_q (n := 12) 0 (.agg #[.slice A xs.length c, .int .i64 (ca : Int)]) rfl (by kernel_rfl) (by kernel_rfl) (fun _ _ _ h => h) (fun w' hk => (R_loadN (p := ⟨g40, 0, none⟩) [.slice A xs.length c, .int .i64 (ca : Int)] (by kernel_rfl) (by kernel_rfl) (by kernel_rfl) (by kernel_rfl) (two_at (hk.cellN (fun h_ => h_.elim (HV.sepB (a := 2) (b := 4) (by decide) rfl rfl) (HV.sepB (a := 2) (b := 3) (by decide) rfl rfl)) (HV.cell (i := 2) (j := 0) rfl rfl)) (hk.cellN (fun h_ => h_.elim (HV.sepB (a := 2) (b := 4) (by decide) rfl rfl) (HV.sepB (a := 2) (b := 3) (by decide) rfl rfl)) (HV.cell (i := 2) (j := 1) rfl rfl))))) HK ?_
        refine t_q (n := 11) 1 (.agg #[.slice B ys.length d, .int .i64 (cb : Int)]) rfl (by kernel_rfl) (by kernel_rfl) (fun _ _ _ h => h) (fun w' hk => (R_loadN (p := ⟨g3, 0, none⟩) [.slice B ys.length d, .int .i64 (cb : Int)] (by kernel_rfl) (by kernel_rfl) (by kernel_rfl) (by kernel_rfl) (two_at (hk.cellN (fun h_ => h_.elim (HV.sepB (a := 6) (b := 4) (by decide) rfl rfl) (HV.sepB (a := 6) (b := 3) (by decide) rfl rfl)) (HV.cell (i := 6) (j := 0) rfl rfl)) (hk.cellN (fun h_ => h_.elim (HV.sepB (a := 6) (b := 4) (by decide) rfl rfl) (HV.sepB (a := 6) (b := 3) (by decide) rfl rfl)) (HV.cell (i := 6) (j := 1) rfl rfl))))) HK ?_
        refine t_q (n := 10) 2 (.int .i64 0) rfl (by kernel_rfl) (by kernel_rfl) (fun _ _ _ h => h) (fun w' hk => (by kernel_rfl)) HK ?_
        refine t_q (n := 9) 3 (.int .i64 0) rfl (by kernel_rfl) (by kernel_rfl) (fun _ _ _ h => h) (fun w' hk => (by kernel_rfl)) HK ?_
        refine t_q (n := 8) 4 (.bool true) rfl (by kernel_rfl) (by kernel_rfl) (fun _ _ _ h => h) (fun w' hk => (R_beq (b := ((0 : Int) == 0)) (by kernel_rfl) (by decide))) HK ?_
        refine t_q (n := 7) 5 (.bool true) rfl (by kernel_rfl) (by kernel_rfl) (fun _ _ _ h => h) (fun w' hk => (by kernel_rfl)) HK ?_
        refine t_q (n := 6) 6 (.bool false) rfl (by kernel_rfl) (by kernel_rfl) (fun _ _ _ h => h) (fun w' hk => (by kernel_rfl)) HK ?_
        refine t_q (n := 5) 7 (.bool false) rfl (by kernel_rfl) (by kernel_rfl) (fun _ _ _ h => h) (fun w' hk => (by kernel_rfl)) HK ?_
        refine t_q (n := 4) 8 (.bool true) rfl (by kernel_rfl) (by kernel_rfl) (fun _ _ _ h => h) (fun w' hk => (by kernel_rfl)) HK ?_
        refine t_q (n := 3) 9 (.bool true) rfl (by kernel_rfl) (by kernel_rfl) (fun _ _ _ h => h) (fun w' hk => (by kernel_rfl)) HK ?_
        obtain ⟨W45, hrun_, H_, hk_⟩ := ex_ks (P := Try.prog) (ty := 0) (ps := "law.go:27") (af := #[{ on := 0, ground := Go.Ground.data }, { on := 5, ground := Go.Ground.chain }, { on := 0, ground := Go.Ground.phase }, { on := 1, ground := (Go.Ground.textOnly Go.Departure.lateStores) }, { on := 2, ground := (Go.Ground.textOnly Go.Departure.lateStores) }, { on := 3, ground := (Go.Ground.textOnly Go.Departure.lateStores) }, { on := 4, ground := (Go.Ground.textOnly Go.Departure.lateStores) }, { on := 5, ground := (Go.Ground.textOnly Go.Departure.lateStores) }, { on := 6, ground := (Go.Ground.textOnly Go.Departure.lateStores) }, { on := 7, ground := (Go.Ground.textOnly Go.Departure.lateStores) }, { on := 8, ground := (Go.Ground.textOnly Go.Departure.lateStores) }, { on := 9, ground := (Go.Ground.textOnly Go.Departure.lateStores) }]) (gd := none) (t := 30) (x := (Go.Operand.tmp 10)) (y := (Go.Operand.tmp 65)) (v := .agg #[.slice A xs.length c, .int .i64 (ca : Int)]) HS 4 rfl (0) [.slice A xs.length c, .int .i64 (ca : Int)] (by kernel_rfl) (by kernel_rfl) (by kernel_rfl) (by kernel_rfl) (one_ (by kernel_rfl)) (Nat.le_of_ble_eq_true rfl)
        replace HK := HK.trans hk_ (fun _ h_ => .inl (.inl (blk_own h_)))
        refine t_s (n := 2) 10 rfl (by kernel_rfl) (by kernel_rfl) hrun_ HK ?_
        clear hk_ hrun_
        replace HS : St W M W45 [blk g [.chan (some p)] 46, chn p ca (xs.map fun n : Int => Value.int .i64 n), blk g40 [.slice A xs.length c, .int .i64 (ca : Int)] 30, blk g9 [.slice none 0 0, .int .i64 0] 30, blk g7 [.slice A xs.length c, .int .i64 (ca : Int)] 30, blk g5 [.int .i64 k, .int .i64 m] 34, blk g3 [.slice B ys.length d, .int .i64 (cb : Int)] 30, blk g1 [.slice A xs.length c, .int .i64 (ca : Int)] 30, blk h [.chan (some q)] 46, chn q cb (ys.map fun n : Int => Value.int .i64 n), rde A (ci .i64 xs), rde B (ci .i64 ys)] := H_
        clear H_
        obtain ⟨W46, hrun_, H_, hk_⟩ := ex_ks (P := Try.prog) (ty := 0) (ps := "law.go:27") (af := #[{ on := 1, ground := Go.Ground.data }, { on := 10, ground := Go.Ground.chain }, { on := 0, ground := Go.Ground.phase }, { on := 1, ground := Go.Ground.phase }, { on := 2, ground := (Go.Ground.textOnly Go.Departure.lateStores) }, { on := 3, ground := (Go.Ground.textOnly Go.Departure.lateStores) }, { on := 4, ground := (Go.Ground.textOnly Go.Departure.lateStores) }, { on := 5, ground := (Go.Ground.textOnly Go.Departure.lateStores) }, { on := 6, ground := (Go.Ground.textOnly Go.Departure.lateStores) }, { on := 7, ground := (Go.Ground.textOnly Go.Departure.lateStores) }, { on := 8, ground := (Go.Ground.textOnly Go.Departure.lateStores) }, { on := 9, ground := (Go.Ground.textOnly Go.Departure.lateStores) }, { on := 10, ground := Go.Ground.phase }]) (gd := none) (t := 30) (x := (Go.Operand.tmp 11)) (y := (Go.Operand.tmp 66)) (v := .agg #[.slice B ys.length d, .int .i64 (cb : Int)]) HS 3 rfl (0) [.slice B ys.length d, .int .i64 (cb : Int)] (by kernel_rfl) (by kernel_rfl) (by kernel_rfl) (by kernel_rfl) (one_ (by kernel_rfl)) (Nat.le_of_ble_eq_true rfl)
        replace HK := HK.trans hk_ (fun _ h_ => .inl (.inr (blk_own h_)))
        refine t_s (n := 1) 11 rfl (by kernel_rfl) (by kernel_rfl) hrun_ HK ?_
        clear hk_ hrun_
        replace HS : St W M W46 [blk g [.chan (some p)] 46, chn p ca (xs.map fun n : Int => Value.int .i64 n), blk g40 [.slice A xs.length c, .int .i64 (ca : Int)] 30, blk g9 [.slice B ys.length d, .int .i64 (cb : Int)] 30, blk g7 [.slice A xs.length c, .int .i64 (ca : Int)] 30, blk g5 [.int .i64 k, .int .i64 m] 34, blk g3 [.slice B ys.length d, .int .i64 (cb : Int)] 30, blk g1 [.slice A xs.length c, .int .i64 (ca : Int)] 30, blk h [.chan (some q)] 46, chn q cb (ys.map fun n : Int => Value.int .i64 n), rde A (ci .i64 xs), rde B (ci .i64 ys)] := H_
        clear H_
        refine t_q (n := 0) 12 (.bool true) rfl (by kernel_rfl) (by kernel_rfl) (fun _ _ _ h => h) (fun w' hk => (by kernel_rfl)) HK ?_
        refine t_done (by kernel_rfl) ?_
        clear HV HK
        refine x_then ?_
        refine wp_ret ?_
        refine x_inbR ?_
        refine x_thenR ?_
        refine ret_ (.tuple #[.agg #[.slice A xs.length c, .int .i64 (ca : Int)], .agg #[.slice B ys.length d, .int .i64 (cb : Int)], .bool true]) (res3 rfl (oneRes_agg (p := ⟨g7, 0, none⟩) [.slice A xs.length c, .int .i64 (ca : Int)] (by kernel_rfl) (by kernel_rfl) (by kernel_rfl) (by kernel_rfl) (HS.cellsN (i := 4) rfl)) (oneRes_agg (p := ⟨g9, 0, none⟩) [.slice B ys.length d, .int .i64 (cb : Int)] (by kernel_rfl) (by kernel_rfl) (by kernel_rfl) (by kernel_rfl) (HS.cellsN (i := 3) rfl)) (oneRes_t (by kernel_rfl))) ?_
        replace HS : St W M W46 [blk g [.chan (some p)] 46, chn p ca (xs.map fun n : Int => Value.int .i64 n), blk h [.chan (some q)] 46, chn q cb (ys.map fun n : Int => Value.int .i64 n), rde A (ci .i64 xs), rde B (ci .i64 ys)] := St.tail (F := [blk g40 [.slice A xs.length c, .int .i64 (ca : Int)] 30, blk g9 [.slice B ys.length d, .int .i64 (cb : Int)] 30, blk g7 [.slice A xs.length c, .int .i64 (ca : Int)] 30, blk g5 [.int .i64 k, .int .i64 m] 34, blk g3 [.slice B ys.length d, .int .i64 (cb : Int)] 30, blk g1 [.slice A xs.length c, .int .i64 (ca : Int)] 30]) (HS.perm (perm_ [2, 3, 4, 5, 6, 7, 0, 1, 8, 9, 10, 11] (by kernel_rfl) rfl))
        exact ⟨xs, ys, _, _, _, _, rfl, HS, by first | omega | (simp only [List.length_append, List.length_cons, List.length_nil, List.length_tail, List.length_drop, List.length_take]; omega), by first | omega | (simp only [List.length_append, List.length_cons, List.length_nil, List.length_tail, List.length_drop, List.length_take]; omega), by first | omega | (simp only [List.length_append, List.length_cons, List.length_nil, List.length_tail, List.length_drop, List.length_take]; omega), by first | omega | (simp only [List.length_append, List.length_cons, List.length_nil, List.length_tail, List.length_drop, List.length_take]; omega)⟩
    · skip
      refine ql (.bool false) (by kernel_rfl) (R_beq (b := (k == (1 : Int))) (by kernel_rfl) (beq_f (hc30))) ?_
      refine ql (.bool false) (by kernel_rfl) (by kernel_rfl) ?_
      refine wpList_nil ?_
      refine x_then ?_
      refine wp_cond_false (by kernel_rfl) ?_
      refine wp_seq ?_
      refine wp_region_lit ?_
      by_cases hc47 : k = (2 : Int)
      · skip
        refine ql (.bool true) (by kernel_rfl) (R_beq (b := (k == (2 : Int))) (by kernel_rfl) (beq_t (hc47))) ?_
        refine ql (.bool true) (by kernel_rfl) (by kernel_rfl) ?_
        refine wpList_nil ?_
        refine x_then ?_
        refine wp_cond_true (by kernel_rfl) ?_
        refine wp_seq ?_
        refine wp_region_lit ?_
        refine ql (.agg #[.slice B ys.length d, .int .i64 (cb : Int)]) (by kernel_rfl) (R_loadN (p := ⟨g3, 0, none⟩) [.slice B ys.length d, .int .i64 (cb : Int)] (by kernel_rfl) (by kernel_rfl) (by kernel_rfl) (by kernel_rfl) (two_at (HS.cell (i := 3) (j := 0) rfl rfl) (HS.cell (i := 3) (j := 1) rfl rfl))) ?_
        refine ql (.pointer (some ⟨g5, 1, none⟩)) (by kernel_rfl) (by kernel_rfl) ?_
        refine ql (.int .i64 m) (by kernel_rfl) (R_load (p := ⟨g5, 1, none⟩) (by kernel_rfl) (by kernel_rfl) (by kernel_rfl) (HS.cell (i := 2) (j := 1) rfl rfl)) ?_
        refine qc (f := 15) (args := #[.agg #[.slice B ys.length d, .int .i64 (cb : Int)], .int .i64 m]) (by kernel_rfl) (R_call #[.agg #[.slice B ys.length d, .int .i64 (cb : Int)], .int .i64 m] Try.func15 (by kernel_rfl) (by kernel_rfl) (by kernel_rfl)) ?_
        by_cases hrm : ys.length < cb
        · skip
          refine (rpput_room _ d ys (cb : Int) m _ (HS.get (i := 10) rfl) (by omega) (by omega)).mono ?_
          rintro e W50 ⟨A48, c49, rfl, H_⟩
          refine ⟨_, rfl, ?_⟩
          replace HS : St W M W50 [row A48 ((ys ++ [m]).length) c49 (ci .i64 (ys ++ [m])) 3 1, blk g9 [.slice none 0 0, .int .i64 0] 30, blk g7 [.slice none 0 0, .int .i64 0] 30, blk g5 [.int .i64 k, .int .i64 m] 34, blk g3 [.slice B ys.length d, .int .i64 (cb : Int)] 30, blk g1 [.slice A xs.length c, .int .i64 (ca : Int)] 30, blk g [.chan (some p)] 46, chn p ca (xs.map fun n : Int => Value.int .i64 n), blk h [.chan (some q)] 46, chn q cb (ys.map fun n : Int => Value.int .i64 n), rde A (ci .i64 xs), rde B (ci .i64 ys)] := HS.join (F := []) (G := [row A48 ((ys ++ [m]).length) c49 (ci .i64 (ys ++ [m])) 3 1]) H_
          clear H_
          have hcA48 := (St.rcap HS (i := 0) rfl).1
          simp only [List.length_append, List.length_cons, List.length_nil] at hcA48
          replace HS : St W M W50 [rde A48 (ci .i64 (ys ++ [m])), blk g9 [.slice none 0 0, .int .i64 0] 30, blk g7 [.slice none 0 0, .int .i64 0] 30, blk g5 [.int .i64 k, .int .i64 m] 34, blk g3 [.slice B ys.length d, .int .i64 (cb : Int)] 30, blk g1 [.slice A xs.length c, .int .i64 (ca : Int)] 30, blk g [.chan (some p)] 46, chn p ca (xs.map fun n : Int => Value.int .i64 n), blk h [.chan (some q)] 46, chn q cb (ys.map fun n : Int => Value.int .i64 n), rde A (ci .i64 xs), rde B (ci .i64 ys)] := HS.to_rde (i := 0) rfl
          replace HS : St W M W50 [rde A48 (ci .i64 (ys ++ [m])), blk g9 [.slice none 0 0, .int .i64 0] 30, blk g7 [.slice none 0 0, .int .i64 0] 30, blk g5 [.int .i64 k, .int .i64 m] 34, blk g3 [.slice B ys.length d, .int .i64 (cb : Int)] 30, blk g1 [.slice A xs.length c, .int .i64 (ca : Int)] 30, blk g [.chan (some p)] 46, chn p ca (xs.map fun n : Int => Value.int .i64 n), blk h [.chan (some q)] 46, chn q cb (ys.map fun n : Int => Value.int .i64 n), rde A (ci .i64 xs)] := St.tail (F := [rde B (ci .i64 ys)]) (HS.perm (perm_ [11, 0, 1, 2, 3, 4, 5, 6, 7, 8, 9, 10] (by kernel_rfl) rfl))
          refine ql (.tuple #[.agg #[.slice A48 ((ys ++ [m]).length) c49, .int .i64 (cb : Int)], .bool true]) (by kernel_rfl) (by kernel_rfl) ?_
          refine ql (.agg #[.slice A48 ((ys ++ [m]).length) c49, .int .i64 (cb : Int)]) (by kernel_rfl) (by kernel_rfl) ?_
          refine ql (.bool true) (by kernel_rfl) (by kernel_rfl) ?_
          refine kb HS [.slice none 0 0, .int .i64 0] 30 (fun g => .pointer (some ⟨g, 0, none⟩)) (by kernel_rfl) (by kernel_rfl) ?_
          intro g51 W52 H_
          replace HS : St W M W52 [blk g51 [.slice none 0 0, .int .i64 0] 30, rde A48 (ci .i64 (ys ++ [m])), blk g9 [.slice none 0 0, .int .i64 0] 30, blk g7 [.slice none 0 0, .int .i64 0] 30, blk g5 [.int .i64 k, .int .i64 m] 34, blk g3 [.slice B ys.length d, .int .i64 (cb : Int)] 30, blk g1 [.slice A xs.length c, .int .i64 (ca : Int)] 30, blk g [.chan (some p)] 46, chn p ca (xs.map fun n : Int => Value.int .i64 n), blk h [.chan (some q)] 46, chn q cb (ys.map fun n : Int => Value.int .i64 n), rde A (ci .i64 xs)] := H_
          clear H_
          refine ks (v := .agg #[.slice A48 ((ys ++ [m]).length) c49, .int .i64 (cb : Int)]) HS 0 rfl (0) [.slice A48 ((ys ++ [m]).length) c49, .int .i64 (cb : Int)] (by kernel_rfl) (by kernel_rfl) (by kernel_rfl) (by kernel_rfl) (by kernel_rfl) (one_ (by kernel_rfl)) (Nat.le_of_ble_eq_true rfl) rfl ?_
          intro W53 H_
          replace HS : St W M W53 [blk g51 [.slice A48 ((ys ++ [m]).length) c49, .int .i64 (cb : Int)] 30, rde A48 (ci .i64 (ys ++ [m])), blk g9 [.slice none 0 0, .int .i64 0] 30, blk g7 [.slice none 0 0, .int .i64 0] 30, blk g5 [.int .i64 k, .int .i64 m] 34, blk g3 [.slice B ys.length d, .int .i64 (cb : Int)] 30, blk g1 [.slice A xs.length c, .int .i64 (ca : Int)] 30, blk g [.chan (some p)] 46, chn p ca (xs.map fun n : Int => Value.int .i64 n), blk h [.chan (some q)] 46, chn q cb (ys.map fun n : Int => Value.int .i64 n), rde A (ci .i64 xs)] := H_
          clear H_
          refine ql (.bool true) (by kernel_rfl) (by kernel_rfl) ?_
          refine wpList_nil ?_
          refine x_then ?_
          refine wp_seq ?_
          replace HS : St W M W53 [blk h [.chan (some q)] 46, chn q cb (ys.map fun n : Int => Value.int .i64 n), blk g51 [.slice A48 ((ys ++ [m]).length) c49, .int .i64 (cb : Int)] 30, rde A48 (ci .i64 (ys ++ [m])), blk g9 [.slice none 0 0, .int .i64 0] 30, blk g7 [.slice none 0 0, .int .i64 0] 30, blk g5 [.int .i64 k, .int .i64 m] 34, blk g3 [.slice B ys.length d, .int .i64 (cb : Int)] 30, blk g1 [.slice A xs.length c, .int .i64 (ca : Int)] 30, blk g [.chan (some p)] 46, chn p ca (xs.map fun n : Int => Value.int .i64 n), rde A (ci .i64 xs)] := HS.perm (perm_ [9, 10, 0, 1, 2, 3, 4, 5, 6, 7, 8, 11] (by kernel_rfl) rfl)
          refine t_start HS (fun k_ => (blk h [.chan (some q)] 46).own k_ ∨ (chn q cb (ys.map fun n : Int => Value.int .i64 n)).own k_ ∨ (blk g7 [.slice none 0 0, .int .i64 0] 30).own k_ ∨ (blk g9 [.slice none 0 0, .int .i64 0] 30).own k_) 11 (by kernel_rfl) rfl ?_
          intro W54 H_ HD_
          clear HD_
          replace HS : St W M W54 [blk h [.chan (some q)] 46, chn q cb (ys.map fun n : Int => Value.int .i64 n), blk g51 [.slice A48 ((ys ++ [m]).length) c49, .int .i64 (cb : Int)] 30, rde A48 (ci .i64 (ys ++ [m])), blk g9 [.slice none 0 0, .int .i64 0] 30, blk g7 [.slice none 0 0, .int .i64 0] 30, blk g5 [.int .i64 k, .int .i64 m] 34, blk g3 [.slice B ys.length d, .int .i64 (cb : Int)] 30, blk g1 [.slice A xs.length c, .int .i64 (ca : Int)] 30, blk g [.chan (some p)] 46, chn p ca (xs.map fun n : Int => Value.int .i64 n), rde A (ci .i64 xs)] := H_
          clear H_
          have HV := HS
          have HK := Kpt.refl (fun k_ => (blk h [.chan (some q)] 46).own k_ ∨ (chn q cb (ys.map fun n : Int => Value.int .i64 n)).own k_ ∨ (blk g7 [.slice none 0 0, .int .i64 0] 30).own k_ ∨ (blk g9 [.slice none 0 0, .int .i64 0] 30).own k_) W54
          refine t_q (n := 10) 0 (.agg #[.slice A xs.length c, .int .i64 (ca : Int)]) rfl (by kernel_rfl) (by kernel_rfl) (fun _ _ _ h => h) (fun w' hk => (R_loadN (p := ⟨g1, 0, none⟩) [.slice A xs.length c, .int .i64 (ca : Int)] (by kernel_rfl) (by kernel_rfl) (by kernel_rfl) (by kernel_rfl) (two_at (hk.cellN (fun h_ => h_.elim (HV.sepB (a := 8) (b := 0) (by decide) rfl rfl) (fun h_ => h_.elim (HV.sepB (a := 8) (b := 1) (by decide) rfl rfl) (fun h_ => h_.elim (HV.sepB (a := 8) (b := 5) (by decide) rfl rfl) (HV.sepB (a := 8) (b := 4) (by decide) rfl rfl)))) (HV.cell (i := 8) (j := 0) rfl rfl)) (hk.cellN (fun h_ => h_.elim (HV.sepB (a := 8) (b := 0) (by decide) rfl rfl) (fun h_ => h_.elim (HV.sepB (a := 8) (b := 1) (by decide) rfl rfl) (fun h_ => h_.elim (HV.sepB (a := 8) (b := 5) (by decide) rfl rfl) (HV.sepB (a := 8) (b := 4) (by decide) rfl rfl)))) (HV.cell (i := 8) (j := 1) rfl rfl))))) HK ?_
          refine t_q (n := 9) 1 (.agg #[.slice A48 ((ys ++ [m]).length) c49, .int .i64 (cb : Int)]) rfl (by kernel_rfl) (by kernel_rfl) (fun _ _ _ h => h) (fun w' hk => (R_loadN (p := ⟨g51, 0, none⟩) [.slice A48 ((ys ++ [m]).length) c49, .int .i64 (cb : Int)] (by kernel_rfl) (by kernel_rfl) (by kernel_rfl) (by kernel_rfl) (two_at (hk.cellN (fun h_ => h_.elim (HV.sepB (a := 2) (b := 0) (by decide) rfl rfl) (fun h_ => h_.elim (HV.sepB (a := 2) (b := 1) (by decide) rfl rfl) (fun h_ => h_.elim (HV.sepB (a := 2) (b := 5) (by decide) rfl rfl) (HV.sepB (a := 2) (b := 4) (by decide) rfl rfl)))) (HV.cell (i := 2) (j := 0) rfl rfl)) (hk.cellN (fun h_ => h_.elim (HV.sepB (a := 2) (b := 0) (by decide) rfl rfl) (fun h_ => h_.elim (HV.sepB (a := 2) (b := 1) (by decide) rfl rfl) (fun h_ => h_.elim (HV.sepB (a := 2) (b := 5) (by decide) rfl rfl) (HV.sepB (a := 2) (b := 4) (by decide) rfl rfl)))) (HV.cell (i := 2) (j := 1) rfl rfl))))) HK ?_
          refine t_q (n := 8) 2 (.pointer (some ⟨h, 0, none⟩)) rfl (by kernel_rfl) (by kernel_rfl) (fun _ _ _ h => h) (fun w' hk => (by kernel_rfl)) HK ?_
          refine t_q (n := 7) 3 (.pointer (some ⟨g5, 1, none⟩)) rfl (by kernel_rfl) (by kernel_rfl) (fun _ _ _ h => h) (fun w' hk => (by kernel_rfl)) HK ?_
          refine t_q (n := 6) 4 (.int .i64 m) rfl (by kernel_rfl) (by kernel_rfl) (fun _ _ _ h => h) (fun w' hk => (R_load (p := ⟨g5, 1, none⟩) (by kernel_rfl) (by kernel_rfl) (by kernel_rfl) (hk.cellN (fun h_ => h_.elim (HV.sepB (a := 6) (b := 0) (by decide) rfl rfl) (fun h_ => h_.elim (HV.sepB (a := 6) (b := 1) (by decide) rfl rfl) (fun h_ => h_.elim (HV.sepB (a := 6) (b := 5) (by decide) rfl rfl) (HV.sepB (a := 6) (b := 4) (by decide) rfl rfl)))) (HV.cell (i := 6) (j := 1) rfl rfl)))) HK ?_
          refine t_q (n := 5) 6 (.bool true) rfl (by kernel_rfl) (by kernel_rfl) (fun _ _ _ h => h) (fun w' hk => (by kernel_rfl)) HK ?_
          refine t_c (n := 4) 5 (f := 16) (args := #[.pointer (some ⟨h, 0, none⟩), .int .i64 m]) rfl (by kernel_rfl) (by kernel_rfl) (R_call #[.pointer (some ⟨h, 0, none⟩), .int .i64 m] Try.func16 (by kernel_rfl) (by kernel_rfl) (by kernel_rfl)) ?_
          refine (pput_room h q 46 cb ys m _ _ (St.focus (F := [blk h [.chan (some q)] 46, chn q cb (ys.map fun n : Int => Value.int .i64 n)]) HS) (by omega)).mono ?_
          rintro e W55 ⟨rfl, H_⟩
          have hkf_ : ∀ k_, owns [blk h [.chan (some q)] 46, chn q cb (ys.map fun n : Int => Value.int .i64 n)] k_ → (blk h [.chan (some q)] 46).own k_ ∨ (chn q cb (ys.map fun n : Int => Value.int .i64 n)).own k_ ∨ (blk g7 [.slice none 0 0, .int .i64 0] 30).own k_ ∨ (blk g9 [.slice none 0 0, .int .i64 0] 30).own k_ := by
            intro k_ h_; obtain ⟨e_, he_, ho_⟩ := h_; simp only [List.mem_cons, List.not_mem_nil, or_false] at he_; rcases he_ with rfl | rfl <;> first | exact (.inl ho_) | exact (.inr (.inl ho_)) | exact (.inr (.inr (.inl ho_))) | exact (.inr (.inr (.inr ho_)))
          refine ⟨_, rfl, HK.trans H_.kept (fun _ h_ => .inl (hkf_ _ h_)), ?_⟩
          replace HK := HK.trans H_.kept (fun _ h_ => .inl (hkf_ _ h_))
          replace HS : St W M W55 [blk h [.chan (some q)] 46, chn q cb ((ys ++ [m]).map fun n : Int => Value.int .i64 n), blk g51 [.slice A48 ((ys ++ [m]).length) c49, .int .i64 (cb : Int)] 30, rde A48 (ci .i64 (ys ++ [m])), blk g9 [.slice none 0 0, .int .i64 0] 30, blk g7 [.slice none 0 0, .int .i64 0] 30, blk g5 [.int .i64 k, .int .i64 m] 34, blk g3 [.slice B ys.length d, .int .i64 (cb : Int)] 30, blk g1 [.slice A xs.length c, .int .i64 (ca : Int)] 30, blk g [.chan (some p)] 46, chn p ca (xs.map fun n : Int => Value.int .i64 n), rde A (ci .i64 xs)] := HS.join (F := [blk h [.chan (some q)] 46, chn q cb (ys.map fun n : Int => Value.int .i64 n)]) (G := [blk h [.chan (some q)] 46, chn q cb ((ys ++ [m]).map fun n : Int => Value.int .i64 n)]) H_
          clear H_
          refine t_q (n := 3) 7 (.bool true) rfl (by kernel_rfl) (by kernel_rfl) (fun _ _ _ h => h) (fun w' hk => (by kernel_rfl)) HK ?_
          obtain ⟨W56, hrun_, H_, hk_⟩ := ex_ks (P := Try.prog) (ty := 0) (ps := "law.go:30") (af := #[{ on := 0, ground := Go.Ground.data }, { on := 5, ground := Go.Ground.chain }, { on := 0, ground := Go.Ground.phase }, { on := 1, ground := (Go.Ground.textOnly Go.Departure.lateStores) }, { on := 2, ground := (Go.Ground.textOnly Go.Departure.lateStores) }, { on := 3, ground := (Go.Ground.textOnly Go.Departure.lateStores) }, { on := 4, ground := (Go.Ground.textOnly Go.Departure.lateStores) }, { on := 5, ground := (Go.Ground.textOnly Go.Departure.lateStoresUnsure) }, { on := 6, ground := (Go.Ground.textOnly Go.Departure.lateStores) }, { on := 7, ground := (Go.Ground.textOnly Go.Departure.lateStores) }]) (gd := none) (t := 30) (x := (Go.Operand.tmp 10)) (y := (Go.Operand.tmp 84)) (v := .agg #[.slice A xs.length c, .int .i64 (ca : Int)]) HS 5 rfl (0) [.slice A xs.length c, .int .i64 (ca : Int)] (by kernel_rfl) (by kernel_rfl) (by kernel_rfl) (by kernel_rfl) (one_ (by kernel_rfl)) (Nat.le_of_ble_eq_true rfl)
          replace HK := HK.trans hk_ (fun _ h_ => .inl (.inr (.inr (.inl (blk_own h_)))))
          refine t_s (n := 2) 8 rfl (by kernel_rfl) (by kernel_rfl) hrun_ HK ?_
          clear hk_ hrun_
          replace HS : St W M W56 [blk h [.chan (some q)] 46, chn q cb ((ys ++ [m]).map fun n : Int => Value.int .i64 n), blk g51 [.slice A48 ((ys ++ [m]).length) c49, .int .i64 (cb : Int)] 30, rde A48 (ci .i64 (ys ++ [m])), blk g9 [.slice none 0 0, .int .i64 0] 30, blk g7 [.slice A xs.length c, .int .i64 (ca : Int)] 30, blk g5 [.int .i64 k, .int .i64 m] 34, blk g3 [.slice B ys.length d, .int .i64 (cb : Int)] 30, blk g1 [.slice A xs.length c, .int .i64 (ca : Int)] 30, blk g [.chan (some p)] 46, chn p ca (xs.map fun n : Int => Value.int .i64 n), rde A (ci .i64 xs)] := H_
          clear H_
          obtain ⟨W57, hrun_, H_, hk_⟩ := ex_ks (P := Try.prog) (ty := 0) (ps := "law.go:30") (af := #[{ on := 1, ground := Go.Ground.data }, { on := 8, ground := Go.Ground.chain }, { on := 0, ground := Go.Ground.phase }, { on := 1, ground := Go.Ground.phase }, { on := 2, ground := (Go.Ground.textOnly Go.Departure.lateStores) }, { on := 3, ground := (Go.Ground.textOnly Go.Departure.lateStores) }, { on := 4, ground := (Go.Ground.textOnly Go.Departure.lateStores) }, { on := 5, ground := (Go.Ground.textOnly Go.Departure.lateStoresUnsure) }, { on := 6, ground := (Go.Ground.textOnly Go.Departure.lateStores) }, { on := 7, ground := (Go.Ground.textOnly Go.Departure.lateStores) }, { on := 8, ground := Go.Ground.phase }]) (gd := none) (t := 30) (x := (Go.Operand.tmp 11)) (y := (Go.Operand.tmp 85)) (v := .agg #[.slice A48 ((ys ++ [m]).length) c49, .int .i64 (cb : Int)]) HS 4 rfl (0) [.slice A48 ((ys ++ [m]).length) c49, .int .i64 (cb : Int)] (by kernel_rfl) (by kernel_rfl) (by kernel_rfl) (by kernel_rfl) (one_ (by kernel_rfl)) (Nat.le_of_ble_eq_true rfl)
          replace HK := HK.trans hk_ (fun _ h_ => .inl (.inr (.inr (.inr (blk_own h_)))))
          refine t_s (n := 1) 9 rfl (by kernel_rfl) (by kernel_rfl) hrun_ HK ?_
          clear hk_ hrun_
          replace HS : St W M W57 [blk h [.chan (some q)] 46, chn q cb ((ys ++ [m]).map fun n : Int => Value.int .i64 n), blk g51 [.slice A48 ((ys ++ [m]).length) c49, .int .i64 (cb : Int)] 30, rde A48 (ci .i64 (ys ++ [m])), blk g9 [.slice A48 ((ys ++ [m]).length) c49, .int .i64 (cb : Int)] 30, blk g7 [.slice A xs.length c, .int .i64 (ca : Int)] 30, blk g5 [.int .i64 k, .int .i64 m] 34, blk g3 [.slice B ys.length d, .int .i64 (cb : Int)] 30, blk g1 [.slice A xs.length c, .int .i64 (ca : Int)] 30, blk g [.chan (some p)] 46, chn p ca (xs.map fun n : Int => Value.int .i64 n), rde A (ci .i64 xs)] := H_
          clear H_
          refine t_q (n := 0) 10 (.bool true) rfl (by kernel_rfl) (by kernel_rfl) (fun _ _ _ h => h) (fun w' hk => (by kernel_rfl)) HK ?_
          refine t_done (by kernel_rfl) ?_
          clear HV HK
          refine x_then ?_
          refine wp_ret ?_
          refine x_inbR ?_
          refine x_thenR ?_
          refine ret_ (.tuple #[.agg #[.slice A xs.length c, .int .i64 (ca : Int)], .agg #[.slice A48 ((ys ++ [m]).length) c49, .int .i64 (cb : Int)], .bool true]) (res3 rfl (oneRes_agg (p := ⟨g7, 0, none⟩) [.slice A xs.length c, .int .i64 (ca : Int)] (by kernel_rfl) (by kernel_rfl) (by kernel_rfl) (by kernel_rfl) (HS.cellsN (i := 5) rfl)) (oneRes_agg (p := ⟨g9, 0, none⟩) [.slice A48 ((ys ++ [m]).length) c49, .int .i64 (cb : Int)] (by kernel_rfl) (by kernel_rfl) (by kernel_rfl) (by kernel_rfl) (HS.cellsN (i := 4) rfl)) (oneRes_t (by kernel_rfl))) ?_
          replace HS : St W M W57 [blk g [.chan (some p)] 46, chn p ca (xs.map fun n : Int => Value.int .i64 n), blk h [.chan (some q)] 46, chn q cb ((ys ++ [m]).map fun n : Int => Value.int .i64 n), rde A (ci .i64 xs), rde A48 (ci .i64 (ys ++ [m]))] := St.tail (F := [blk g51 [.slice A48 ((ys ++ [m]).length) c49, .int .i64 (cb : Int)] 30, blk g9 [.slice A48 ((ys ++ [m]).length) c49, .int .i64 (cb : Int)] 30, blk g7 [.slice A xs.length c, .int .i64 (ca : Int)] 30, blk g5 [.int .i64 k, .int .i64 m] 34, blk g3 [.slice B ys.length d, .int .i64 (cb : Int)] 30, blk g1 [.slice A xs.length c, .int .i64 (ca : Int)] 30]) (HS.perm (perm_ [2, 4, 5, 6, 7, 8, 9, 10, 0, 1, 11, 3] (by kernel_rfl) rfl))
          exact ⟨xs, (ys ++ [m]), _, _, _, _, rfl, HS, by first | omega | (simp only [List.length_append, List.length_cons, List.length_nil, List.length_tail, List.length_drop, List.length_take]; omega), by first | omega | (simp only [List.length_append, List.length_cons, List.length_nil, List.length_tail, List.length_drop, List.length_take]; omega), by first | omega | (simp only [List.length_append, List.length_cons, List.length_nil, List.length_tail, List.length_drop, List.length_take]; omega), by first | omega | (simp only [List.length_append, List.length_cons, List.length_nil, List.length_tail, List.length_drop, List.length_take]; omega)⟩
        · skip
          refine (rpput_full _ d ys (cb : Int) m _ (HS.get (i := 10) rfl) (by omega) (by omega)).mono ?_
          rintro e W58 ⟨rfl, H_⟩
          refine ⟨_, rfl, ?_⟩
          replace HS : St W M W58 [blk g9 [.slice none 0 0, .int .i64 0] 30, blk g7 [.slice none 0 0, .int .i64 0] 30, blk g5 [.int .i64 k, .int .i64 m] 34, blk g3 [.slice B ys.length d, .int .i64 (cb : Int)] 30, blk g1 [.slice A xs.length c, .int .i64 (ca : Int)] 30, blk g [.chan (some p)] 46, chn p ca (xs.map fun n : Int => Value.int .i64 n), blk h [.chan (some q)] 46, chn q cb (ys.map fun n : Int => Value.int .i64 n), rde A (ci .i64 xs), rde B (ci .i64 ys)] := HS.join (F := []) (G := []) H_
          clear H_
          refine ql (.tuple #[.agg #[.slice B ys.length d, .int .i64 (cb : Int)], .bool false]) (by kernel_rfl) (by kernel_rfl) ?_
          refine ql (.agg #[.slice B ys.length d, .int .i64 (cb : Int)]) (by kernel_rfl) (by kernel_rfl) ?_
          refine ql (.bool false) (by kernel_rfl) (by kernel_rfl) ?_
          refine kb HS [.slice none 0 0, .int .i64 0] 30 (fun g => .pointer (some ⟨g, 0, none⟩)) (by kernel_rfl) (by kernel_rfl) ?_
          intro g59 W60 H_
          replace HS : St W M W60 [blk g59 [.slice none 0 0, .int .i64 0] 30, blk g9 [.slice none 0 0, .int .i64 0] 30, blk g7 [.slice none 0 0, .int .i64 0] 30, blk g5 [.int .i64 k, .int .i64 m] 34, blk g3 [.slice B ys.length d, .int .i64 (cb : Int)] 30, blk g1 [.slice A xs.length c, .int .i64 (ca : Int)] 30, blk g [.chan (some p)] 46, chn p ca (xs.map fun n : Int => Value.int .i64 n), blk h [.chan (some q)] 46, chn q cb (ys.map fun n : Int => Value.int .i64 n), rde A (ci .i64 xs), rde B (ci .i64 ys)] := H_
          clear H_
          refine ks (v := .agg #[.slice B ys.length d, .int .i64 (cb : Int)]) HS 0 rfl (0) [.slice B ys.length d, .int .i64 (cb : Int)] (by kernel_rfl) (by kernel_rfl) (by kernel_rfl) (by kernel_rfl) (by kernel_rfl) (one_ (by kernel_rfl)) (Nat.le_of_ble_eq_true rfl) rfl ?_
          intro W61 H_
          replace HS : St W M W61 [blk g59 [.slice B ys.length d, .int .i64 (cb : Int)] 30, blk g9 [.slice none 0 0, .int .i64 0] 30, blk g7 [.slice none 0 0, .int .i64 0] 30, blk g5 [.int .i64 k, .int .i64 m] 34, blk g3 [.slice B ys.length d, .int .i64 (cb : Int)] 30, blk g1 [.slice A xs.length c, .int .i64 (ca : Int)] 30, blk g [.chan (some p)] 46, chn p ca (xs.map fun n : Int => Value.int .i64 n), blk h [.chan (some q)] 46, chn q cb (ys.map fun n : Int => Value.int .i64 n), rde A (ci .i64 xs), rde B (ci .i64 ys)] := H_
          clear H_
          refine ql (.bool false) (by kernel_rfl) (by kernel_rfl) ?_
          refine wpList_nil ?_
          refine x_then ?_
          refine wp_seq ?_
          replace HS : St W M W61 [blk h [.chan (some q)] 46, chn q cb (ys.map fun n : Int => Value.int .i64 n), blk g59 [.slice B ys.length d, .int .i64 (cb : Int)] 30, blk g9 [.slice none 0 0, .int .i64 0] 30, blk g7 [.slice none 0 0, .int .i64 0] 30, blk g5 [.int .i64 k, .int .i64 m] 34, blk g3 [.slice B ys.length d, .int .i64 (cb : Int)] 30, blk g1 [.slice A xs.length c, .int .i64 (ca : Int)] 30, blk g [.chan (some p)] 46, chn p ca (xs.map fun n : Int => Value.int .i64 n), rde A (ci .i64 xs), rde B (ci .i64 ys)] := HS.perm (perm_ [8, 9, 0, 1, 2, 3, 4, 5, 6, 7, 10, 11] (by kernel_rfl) rfl)
          refine t_start HS (fun k_ => (blk h [.chan (some q)] 46).own k_ ∨ (chn q cb (ys.map fun n : Int => Value.int .i64 n)).own k_ ∨ (blk g7 [.slice none 0 0, .int .i64 0] 30).own k_ ∨ (blk g9 [.slice none 0 0, .int .i64 0] 30).own k_) 11 (by kernel_rfl) rfl ?_
          intro W62 H_ HD_
          clear HD_
          replace HS : St W M W62 [blk h [.chan (some q)] 46, chn q cb (ys.map fun n : Int => Value.int .i64 n), blk g59 [.slice B ys.length d, .int .i64 (cb : Int)] 30, blk g9 [.slice none 0 0, .int .i64 0] 30, blk g7 [.slice none 0 0, .int .i64 0] 30, blk g5 [.int .i64 k, .int .i64 m] 34, blk g3 [.slice B ys.length d, .int .i64 (cb : Int)] 30, blk g1 [.slice A xs.length c, .int .i64 (ca : Int)] 30, blk g [.chan (some p)] 46, chn p ca (xs.map fun n : Int => Value.int .i64 n), rde A (ci .i64 xs), rde B (ci .i64 ys)] := H_
          clear H_
          have HV := HS
          have HK := Kpt.refl (fun k_ => (blk h [.chan (some q)] 46).own k_ ∨ (chn q cb (ys.map fun n : Int => Value.int .i64 n)).own k_ ∨ (blk g7 [.slice none 0 0, .int .i64 0] 30).own k_ ∨ (blk g9 [.slice none 0 0, .int .i64 0] 30).own k_) W62
          refine t_q (n := 10) 0 (.agg #[.slice A xs.length c, .int .i64 (ca : Int)]) rfl (by kernel_rfl) (by kernel_rfl) (fun _ _ _ h => h) (fun w' hk => (R_loadN (p := ⟨g1, 0, none⟩) [.slice A xs.length c, .int .i64 (ca : Int)] (by kernel_rfl) (by kernel_rfl) (by kernel_rfl) (by kernel_rfl) (two_at (hk.cellN (fun h_ => h_.elim (HV.sepB (a := 7) (b := 0) (by decide) rfl rfl) (fun h_ => h_.elim (HV.sepB (a := 7) (b := 1) (by decide) rfl rfl) (fun h_ => h_.elim (HV.sepB (a := 7) (b := 4) (by decide) rfl rfl) (HV.sepB (a := 7) (b := 3) (by decide) rfl rfl)))) (HV.cell (i := 7) (j := 0) rfl rfl)) (hk.cellN (fun h_ => h_.elim (HV.sepB (a := 7) (b := 0) (by decide) rfl rfl) (fun h_ => h_.elim (HV.sepB (a := 7) (b := 1) (by decide) rfl rfl) (fun h_ => h_.elim (HV.sepB (a := 7) (b := 4) (by decide) rfl rfl) (HV.sepB (a := 7) (b := 3) (by decide) rfl rfl)))) (HV.cell (i := 7) (j := 1) rfl rfl))))) HK ?_
          refine t_q (n := 9) 1 (.agg #[.slice B ys.length d, .int .i64 (cb : Int)]) rfl (by kernel_rfl) (by kernel_rfl) (fun _ _ _ h => h) (fun w' hk => (R_loadN (p := ⟨g59, 0, none⟩) [.slice B ys.length d, .int .i64 (cb : Int)] (by kernel_rfl) (by kernel_rfl) (by kernel_rfl) (by kernel_rfl) (two_at (hk.cellN (fun h_ => h_.elim (HV.sepB (a := 2) (b := 0) (by decide) rfl rfl) (fun h_ => h_.elim (HV.sepB (a := 2) (b := 1) (by decide) rfl rfl) (fun h_ => h_.elim (HV.sepB (a := 2) (b := 4) (by decide) rfl rfl) (HV.sepB (a := 2) (b := 3) (by decide) rfl rfl)))) (HV.cell (i := 2) (j := 0) rfl rfl)) (hk.cellN (fun h_ => h_.elim (HV.sepB (a := 2) (b := 0) (by decide) rfl rfl) (fun h_ => h_.elim (HV.sepB (a := 2) (b := 1) (by decide) rfl rfl) (fun h_ => h_.elim (HV.sepB (a := 2) (b := 4) (by decide) rfl rfl) (HV.sepB (a := 2) (b := 3) (by decide) rfl rfl)))) (HV.cell (i := 2) (j := 1) rfl rfl))))) HK ?_
          refine t_q (n := 8) 2 (.pointer (some ⟨h, 0, none⟩)) rfl (by kernel_rfl) (by kernel_rfl) (fun _ _ _ h => h) (fun w' hk => (by kernel_rfl)) HK ?_
          refine t_q (n := 7) 3 (.pointer (some ⟨g5, 1, none⟩)) rfl (by kernel_rfl) (by kernel_rfl) (fun _ _ _ h => h) (fun w' hk => (by kernel_rfl)) HK ?_
          refine t_q (n := 6) 4 (.int .i64 m) rfl (by kernel_rfl) (by kernel_rfl) (fun _ _ _ h => h) (fun w' hk => (R_load (p := ⟨g5, 1, none⟩) (by kernel_rfl) (by kernel_rfl) (by kernel_rfl) (hk.cellN (fun h_ => h_.elim (HV.sepB (a := 5) (b := 0) (by decide) rfl rfl) (fun h_ => h_.elim (HV.sepB (a := 5) (b := 1) (by decide) rfl rfl) (fun h_ => h_.elim (HV.sepB (a := 5) (b := 4) (by decide) rfl rfl) (HV.sepB (a := 5) (b := 3) (by decide) rfl rfl)))) (HV.cell (i := 5) (j := 1) rfl rfl)))) HK ?_
          refine t_q (n := 5) 6 (.bool false) rfl (by kernel_rfl) (by kernel_rfl) (fun _ _ _ h => h) (fun w' hk => (by kernel_rfl)) HK ?_
          refine t_c (n := 4) 5 (f := 16) (args := #[.pointer (some ⟨h, 0, none⟩), .int .i64 m]) rfl (by kernel_rfl) (by kernel_rfl) (R_call #[.pointer (some ⟨h, 0, none⟩), .int .i64 m] Try.func16 (by kernel_rfl) (by kernel_rfl) (by kernel_rfl)) ?_
          refine (pput_full h q 46 cb ys m _ _ (St.focus (F := [blk h [.chan (some q)] 46, chn q cb (ys.map fun n : Int => Value.int .i64 n)]) HS) (by omega)).mono ?_
          rintro e W63 ⟨rfl, H_⟩
          have hkf_ : ∀ k_, owns [blk h [.chan (some q)] 46, chn q cb (ys.map fun n : Int => Value.int .i64 n)] k_ → (blk h [.chan (some q)] 46).own k_ ∨ (chn q cb (ys.map fun n : Int => Value.int .i64 n)).own k_ ∨ (blk g7 [.slice none 0 0, .int .i64 0] 30).own k_ ∨ (blk g9 [.slice none 0 0, .int .i64 0] 30).own k_ := by
            intro k_ h_; obtain ⟨e_, he_, ho_⟩ := h_; simp only [List.mem_cons, List.not_mem_nil, or_false] at he_; rcases he_ with rfl | rfl <;> first | exact (.inl ho_) | exact (.inr (.inl ho_)) | exact (.inr (.inr (.inl ho_))) | exact (.inr (.inr (.inr ho_)))
          refine ⟨_, rfl, HK.trans H_.kept (fun _ h_ => .inl (hkf_ _ h_)), ?_⟩
          replace HK := HK.trans H_.kept (fun _ h_ => .inl (hkf_ _ h_))
          replace HS : St W M W63 [blk h [.chan (some q)] 46, chn q cb (ys.map fun n : Int => Value.int .i64 n), blk g59 [.slice B ys.length d, .int .i64 (cb : Int)] 30, blk g9 [.slice none 0 0, .int .i64 0] 30, blk g7 [.slice none 0 0, .int .i64 0] 30, blk g5 [.int .i64 k, .int .i64 m] 34, blk g3 [.slice B ys.length d, .int .i64 (cb : Int)] 30, blk g1 [.slice A xs.length c, .int .i64 (ca : Int)] 30, blk g [.chan (some p)] 46, chn p ca (xs.map fun n : Int => Value.int .i64 n), rde A (ci .i64 xs), rde B (ci .i64 ys)] := HS.join (F := [blk h [.chan (some q)] 46, chn q cb (ys.map fun n : Int => Value.int .i64 n)]) (G := [blk h [.chan (some q)] 46, chn q cb (ys.map fun n : Int => Value.int .i64 n)]) H_
          clear H_
          refine t_q (n := 3) 7 (.bool true) rfl (by kernel_rfl) (by kernel_rfl) (fun _ _ _ h => h) (fun w' hk => (by kernel_rfl)) HK ?_
          obtain ⟨W64, hrun_, H_, hk_⟩ := ex_ks (P := Try.prog) (ty := 0) (ps := "law.go:30") (af := #[{ on := 0, ground := Go.Ground.data }, { on := 5, ground := Go.Ground.chain }, { on := 0, ground := Go.Ground.phase }, { on := 1, ground := (Go.Ground.textOnly Go.Departure.lateStores) }, { on := 2, ground := (Go.Ground.textOnly Go.Departure.lateStores) }, { on := 3, ground := (Go.Ground.textOnly Go.Departure.lateStores) }, { on := 4, ground := (Go.Ground.textOnly Go.Departure.lateStores) }, { on := 5, ground := (Go.Ground.textOnly Go.Departure.lateStoresUnsure) }, { on := 6, ground := (Go.Ground.textOnly Go.Departure.lateStores) }, { on := 7, ground := (Go.Ground.textOnly Go.Departure.lateStores) }]) (gd := none) (t := 30) (x := (Go.Operand.tmp 10)) (y := (Go.Operand.tmp 84)) (v := .agg #[.slice A xs.length c, .int .i64 (ca : Int)]) HS 4 rfl (0) [.slice A xs.length c, .int .i64 (ca : Int)] (by kernel_rfl) (by kernel_rfl) (by kernel_rfl) (by kernel_rfl) (one_ (by kernel_rfl)) (Nat.le_of_ble_eq_true rfl)
          replace HK := HK.trans hk_ (fun _ h_ => .inl (.inr (.inr (.inl (blk_own h_)))))
          refine t_s (n := 2) 8 rfl (by kernel_rfl) (by kernel_rfl) hrun_ HK ?_
          clear hk_ hrun_
          replace HS : St W M W64 [blk h [.chan (some q)] 46, chn q cb (ys.map fun n : Int => Value.int .i64 n), blk g59 [.slice B ys.length d, .int .i64 (cb : Int)] 30, blk g9 [.slice none 0 0, .int .i64 0] 30, blk g7 [.slice A xs.length c, .int .i64 (ca : Int)] 30, blk g5 [.int .i64 k, .int .i64 m] 34, blk g3 [.slice B ys.length d, .int .i64 (cb : Int)] 30, blk g1 [.slice A xs.length c, .int .i64 (ca : Int)] 30, blk g [.chan (some p)] 46, chn p ca (xs.map fun n : Int => Value.int .i64 n), rde A (ci .i64 xs), rde B (ci .i64 ys)] := H_
          clear H_
          obtain ⟨W65, hrun_, H_, hk_⟩ := ex_ks (P := Try.prog) (ty := 0) (ps := "law.go:30") (af := #[{ on := 1, ground := Go.Ground.data }, { on := 8, ground := Go.Ground.chain }, { on := 0, ground := Go.Ground.phase }, { on := 1, ground := Go.Ground.phase }, { on := 2, ground := (Go.Ground.textOnly Go.Departure.lateStores) }, { on := 3, ground := (Go.Ground.textOnly Go.Departure.lateStores) }, { on := 4, ground := (Go.Ground.textOnly Go.Departure.lateStores) }, { on := 5, ground := (Go.Ground.textOnly Go.Departure.lateStoresUnsure) }, { on := 6, ground := (Go.Ground.textOnly Go.Departure.lateStores) }, { on := 7, ground := (Go.Ground.textOnly Go.Departure.lateStores) }, { on := 8, ground := Go.Ground.phase }]) (gd := none) (t := 30) (x := (Go.Operand.tmp 11)) (y := (Go.Operand.tmp 85)) (v := .agg #[.slice B ys.length d, .int .i64 (cb : Int)]) HS 3 rfl (0) [.slice B ys.length d, .int .i64 (cb : Int)] (by kernel_rfl) (by kernel_rfl) (by kernel_rfl) (by kernel_rfl) (one_ (by kernel_rfl)) (Nat.le_of_ble_eq_true rfl)
          replace HK := HK.trans hk_ (fun _ h_ => .inl (.inr (.inr (.inr (blk_own h_)))))
          refine t_s (n := 1) 9 rfl (by kernel_rfl) (by kernel_rfl) hrun_ HK ?_
          clear hk_ hrun_
          replace HS : St W M W65 [blk h [.chan (some q)] 46, chn q cb (ys.map fun n : Int => Value.int .i64 n), blk g59 [.slice B ys.length d, .int .i64 (cb : Int)] 30, blk g9 [.slice B ys.length d, .int .i64 (cb : Int)] 30, blk g7 [.slice A xs.length c, .int .i64 (ca : Int)] 30, blk g5 [.int .i64 k, .int .i64 m] 34, blk g3 [.slice B ys.length d, .int .i64 (cb : Int)] 30, blk g1 [.slice A xs.length c, .int .i64 (ca : Int)] 30, blk g [.chan (some p)] 46, chn p ca (xs.map fun n : Int => Value.int .i64 n), rde A (ci .i64 xs), rde B (ci .i64 ys)] := H_
          clear H_
          refine t_q (n := 0) 10 (.bool true) rfl (by kernel_rfl) (by kernel_rfl) (fun _ _ _ h => h) (fun w' hk => (by kernel_rfl)) HK ?_
          refine t_done (by kernel_rfl) ?_
          clear HV HK
          refine x_then ?_
          refine wp_ret ?_
          refine x_inbR ?_
          refine x_thenR ?_
          refine ret_ (.tuple #[.agg #[.slice A xs.length c, .int .i64 (ca : Int)], .agg #[.slice B ys.length d, .int .i64 (cb : Int)], .bool true]) (res3 rfl (oneRes_agg (p := ⟨g7, 0, none⟩) [.slice A xs.length c, .int .i64 (ca : Int)] (by kernel_rfl) (by kernel_rfl) (by kernel_rfl) (by kernel_rfl) (HS.cellsN (i := 4) rfl)) (oneRes_agg (p := ⟨g9, 0, none⟩) [.slice B ys.length d, .int .i64 (cb : Int)] (by kernel_rfl) (by kernel_rfl) (by kernel_rfl) (by kernel_rfl) (HS.cellsN (i := 3) rfl)) (oneRes_t (by kernel_rfl))) ?_
          replace HS : St W M W65 [blk g [.chan (some p)] 46, chn p ca (xs.map fun n : Int => Value.int .i64 n), blk h [.chan (some q)] 46, chn q cb (ys.map fun n : Int => Value.int .i64 n), rde A (ci .i64 xs), rde B (ci .i64 ys)] := St.tail (F := [blk g59 [.slice B ys.length d, .int .i64 (cb : Int)] 30, blk g9 [.slice B ys.length d, .int .i64 (cb : Int)] 30, blk g7 [.slice A xs.length c, .int .i64 (ca : Int)] 30, blk g5 [.int .i64 k, .int .i64 m] 34, blk g3 [.slice B ys.length d, .int .i64 (cb : Int)] 30, blk g1 [.slice A xs.length c, .int .i64 (ca : Int)] 30]) (HS.perm (perm_ [2, 3, 4, 5, 6, 7, 8, 9, 0, 1, 10, 11] (by kernel_rfl) rfl))
          exact ⟨xs, ys, _, _, _, _, rfl, HS, by first | omega | (simp only [List.length_append, List.length_cons, List.length_nil, List.length_tail, List.length_drop, List.length_take]; omega), by first | omega | (simp only [List.length_append, List.length_cons, List.length_nil, List.length_tail, List.length_drop, List.length_take]; omega), by first | omega | (simp only [List.length_append, List.length_cons, List.length_nil, List.length_tail, List.length_drop, List.length_take]; omega), by first | omega | (simp only [List.length_append, List.length_cons, List.length_nil, List.length_tail, List.length_drop, List.length_take]; omega)⟩
      · skip
        refine ql (.bool false) (by kernel_rfl) (R_beq (b := (k == (2 : Int))) (by kernel_rfl) (beq_f (hc47))) ?_
        refine ql (.bool false) (by kernel_rfl) (by kernel_rfl) ?_
        refine wpList_nil ?_
        refine x_then ?_
        refine wp_cond_false (by kernel_rfl) ?_
        refine wp_seq ?_
        refine wp_region_lit ?_
        by_cases hc66 : k = (3 : Int)
        · skip
          refine ql (.bool true) (by kernel_rfl) (R_beq (b := (k == (3 : Int))) (by kernel_rfl) (beq_t (hc66))) ?_
          refine ql (.bool true) (by kernel_rfl) (by kernel_rfl) ?_
          refine wpList_nil ?_
          refine x_then ?_
          refine wp_cond_true (by kernel_rfl) ?_
          refine wp_seq ?_
          refine wp_region_lit ?_
          refine ql (.agg #[.slice B ys.length d, .int .i64 (cb : Int)]) (by kernel_rfl) (R_loadN (p := ⟨g3, 0, none⟩) [.slice B ys.length d, .int .i64 (cb : Int)] (by kernel_rfl) (by kernel_rfl) (by kernel_rfl) (by kernel_rfl) (two_at (HS.cell (i := 3) (j := 0) rfl rfl) (HS.cell (i := 3) (j := 1) rfl rfl))) ?_
          refine qc (f := 17) (args := #[.agg #[.slice B ys.length d, .int .i64 (cb : Int)]]) (by kernel_rfl) (R_call #[.agg #[.slice B ys.length d, .int .i64 (cb : Int)]] Try.func17 (by kernel_rfl) (by kernel_rfl) (by kernel_rfl)) ?_
          by_cases hsm : 0 < ys.length
          · skip
            refine (rpget_some _ d ys (cb : Int) _ (HS.get (i := 10) rfl) (by omega) (by omega) (by omega)).mono ?_
            rintro e W67 ⟨rfl, H_⟩
            refine ⟨_, rfl, ?_⟩
            replace HS : St W M W67 [blk g9 [.slice none 0 0, .int .i64 0] 30, blk g7 [.slice none 0 0, .int .i64 0] 30, blk g5 [.int .i64 k, .int .i64 m] 34, blk g3 [.slice B ys.length d, .int .i64 (cb : Int)] 30, blk g1 [.slice A xs.length c, .int .i64 (ca : Int)] 30, blk g [.chan (some p)] 46, chn p ca (xs.map fun n : Int => Value.int .i64 n), blk h [.chan (some q)] 46, chn q cb (ys.map fun n : Int => Value.int .i64 n), rde A (ci .i64 xs), rde B (ci .i64 ys)] := HS.join (F := []) (G := []) H_
            clear H_
            replace HS : St W M W67 [blk g9 [.slice none 0 0, .int .i64 0] 30, blk g7 [.slice none 0 0, .int .i64 0] 30, blk g5 [.int .i64 k, .int .i64 m] 34, blk g3 [.slice B ys.length d, .int .i64 (cb : Int)] 30, blk g1 [.slice A xs.length c, .int .i64 (ca : Int)] 30, blk g [.chan (some p)] 46, chn p ca (xs.map fun n : Int => Value.int .i64 n), blk h [.chan (some q)] 46, chn q cb (ys.map fun n : Int => Value.int .i64 n), rde A (ci .i64 xs), rde (cutA B d 1 1) (ci .i64 ys.tail)] := (HS.rde_sub (i := 10) rfl (fun h_ => rd_cut (c := d) (m := 1) h_ (by omega) (by rw [ci_len]; omega)) cutA_own).cast_ (by rw [ci_drop, List.drop_one]; rfl)
            refine ql (.tuple #[.agg #[.slice (cutA B d 1 1) ys.tail.length (d - 1), .int .i64 (cb : Int)], .int .i64 (rdI ys 0), .bool true]) (by kernel_rfl) (by kernel_rfl) ?_
            refine ql (.agg #[.slice (cutA B d 1 1) ys.tail.length (d - 1), .int .i64 (cb : Int)]) (by kernel_rfl) (by kernel_rfl) ?_
            refine ql (.int .i64 (rdI ys 0)) (by kernel_rfl) (by kernel_rfl) ?_
            refine ql (.bool true) (by kernel_rfl) (by kernel_rfl) ?_
            refine kb HS [.slice none 0 0, .int .i64 0] 30 (fun g => .pointer (some ⟨g, 0, none⟩)) (by kernel_rfl) (by kernel_rfl) ?_
            intro g68 W69 H_
            replace HS : St W M W69 [blk g68 [.slice none 0 0, .int .i64 0] 30, blk g9 [.slice none 0 0, .int .i64 0] 30, blk g7 [.slice none 0 0, .int .i64 0] 30, blk g5 [.int .i64 k, .int .i64 m] 34, blk g3 [.slice B ys.length d, .int .i64 (cb : Int)] 30, blk g1 [.slice A xs.length c, .int .i64 (ca : Int)] 30, blk g [.chan (some p)] 46, chn p ca (xs.map fun n : Int => Value.int .i64 n), blk h [.chan (some q)] 46, chn q cb (ys.map fun n : Int => Value.int .i64 n), rde A (ci .i64 xs), rde (cutA B d 1 1) (ci .i64 ys.tail)] := H_
            clear H_
            refine ks (v := .agg #[.slice (cutA B d 1 1) ys.tail.length (d - 1), .int .i64 (cb : Int)]) HS 0 rfl (0) [.slice (cutA B d 1 1) ys.tail.length (d - 1), .int .i64 (cb : Int)] (by kernel_rfl) (by kernel_rfl) (by kernel_rfl) (by kernel_rfl) (by kernel_rfl) (one_ (by kernel_rfl)) (Nat.le_of_ble_eq_true rfl) rfl ?_
            intro W70 H_
            replace HS : St W M W70 [blk g68 [.slice (cutA B d 1 1) ys.tail.length (d - 1), .int .i64 (cb : Int)] 30, blk g9 [.slice none 0 0, .int .i64 0] 30, blk g7 [.slice none 0 0, .int .i64 0] 30, blk g5 [.int .i64 k, .int .i64 m] 34, blk g3 [.slice B ys.length d, .int .i64 (cb : Int)] 30, blk g1 [.slice A xs.length c, .int .i64 (ca : Int)] 30, blk g [.chan (some p)] 46, chn p ca (xs.map fun n : Int => Value.int .i64 n), blk h [.chan (some q)] 46, chn q cb (ys.map fun n : Int => Value.int .i64 n), rde A (ci .i64 xs), rde (cutA B d 1 1) (ci .i64 ys.tail)] := H_
            clear H_
            refine ql (.int .i64 (rdI ys 0)) (by kernel_rfl) (by kernel_rfl) ?_
            refine ql (.bool true) (by kernel_rfl) (by kernel_rfl) ?_
            refine wpList_nil ?_
            refine x_then ?_
            refine wp_seq ?_
            refine wp_region_lit ?_
            refine ql (.pointer (some ⟨h, 0, none⟩)) (by kernel_rfl) (by kernel_rfl) ?_
            refine qc (f := 18) (args := #[.pointer (some ⟨h, 0, none⟩)]) (by kernel_rfl) (R_call #[.pointer (some ⟨h, 0, none⟩)] Try.func18 (by kernel_rfl) (by kernel_rfl) (by kernel_rfl)) ?_
            replace HS : St W M W70 [blk h [.chan (some q)] 46, chn q cb (ys.map fun n : Int => Value.int .i64 n), blk g68 [.slice (cutA B d 1 1) ys.tail.length (d - 1), .int .i64 (cb : Int)] 30, blk g9 [.slice none 0 0, .int .i64 0] 30, blk g7 [.slice none 0 0, .int .i64 0] 30, blk g5 [.int .i64 k, .int .i64 m] 34, blk g3 [.slice B ys.length d, .int .i64 (cb : Int)] 30, blk g1 [.slice A xs.length c, .int .i64 (ca : Int)] 30, blk g [.chan (some p)] 46, chn p ca (xs.map fun n : Int => Value.int .i64 n), rde A (ci .i64 xs), rde (cutA B d 1 1) (ci .i64 ys.tail)] := HS.perm (perm_ [8, 9, 0, 1, 2, 3, 4, 5, 6, 7, 10, 11] (by kernel_rfl) rfl)
            refine (pget_ne h q cb ys _ _ (St.focus (F := [blk h [.chan (some q)] 46, chn q cb (ys.map fun n : Int => Value.int .i64 n)]) HS) hsm).mono ?_
            rintro e W71 ⟨rfl, H_⟩
            refine ⟨_, rfl, ?_⟩
            replace HS : St W M W71 [blk h [.chan (some q)] 46, chn q cb (ys.tail.map fun n : Int => Value.int .i64 n), blk g68 [.slice (cutA B d 1 1) ys.tail.length (d - 1), .int .i64 (cb : Int)] 30, blk g9 [.slice none 0 0, .int .i64 0] 30, blk g7 [.slice none 0 0, .int .i64 0] 30, blk g5 [.int .i64 k, .int .i64 m] 34, blk g3 [.slice B ys.length d, .int .i64 (cb : Int)] 30, blk g1 [.slice A xs.length c, .int .i64 (ca : Int)] 30, blk g [.chan (some p)] 46, chn p ca (xs.map fun n : Int => Value.int .i64 n), rde A (ci .i64 xs), rde (cutA B d 1 1) (ci .i64 ys.tail)] := HS.join (F := [blk h [.chan (some q)] 46, chn q cb (ys.map fun n : Int => Value.int .i64 n)]) (G := [blk h [.chan (some q)] 46, chn q cb (ys.tail.map fun n : Int => Value.int .i64 n)]) H_
            clear H_
            refine ql (.tuple #[.int .i64 (rdI ys 0), .bool true]) (by kernel_rfl) (by kernel_rfl) ?_
            refine ql (.int .i64 (rdI ys 0)) (by kernel_rfl) (by kernel_rfl) ?_
            refine ql (.bool true) (by kernel_rfl) (by kernel_rfl) ?_
            refine ql (.int .i64 (rdI ys 0)) (by kernel_rfl) (by kernel_rfl) ?_
            refine ql (.bool true) (by kernel_rfl) (by kernel_rfl) ?_
            refine wpList_nil ?_
            refine x_then ?_
            refine wp_seq ?_
            refine t_start HS (fun k_ => (blk g7 [.slice none 0 0, .int .i64 0] 30).own k_ ∨ (blk g9 [.slice none 0 0, .int .i64 0] 30).own k_) 13 (by kernel_rfl) rfl ?_
            intro W72 H_ HD_
            clear HD_
            replace HS : St W M W72 [blk h [.chan (some q)] 46, chn q cb (ys.tail.map fun n : Int => Value.int .i64 n), blk g68 [.slice (cutA B d 1 1) ys.tail.length (d - 1), .int .i64 (cb : Int)] 30, blk g9 [.slice none 0 0, .int .i64 0] 30, blk g7 [.slice none 0 0, .int .i64 0] 30, blk g5 [.int .i64 k, .int .i64 m] 34, blk g3 [.slice B ys.length d, .int .i64 (cb : Int)] 30, blk g1 [.slice A xs.length c, .int .i64 (ca : Int)] 30, blk g [.chan (some p)] 46, chn p ca (xs.map fun n : Int => Value.int .i64 n), rde A (ci .i64 xs), rde (cutA B d 1 1) (ci .i64 ys.tail)] := H_
            clear H_
            have HV := HS
            have HK := Kpt.refl (fun k_ => (blk g7 [.slice none 0 0, .int .i64 0] 30).own k_ ∨ (blk g9 [.slice none 0 0, .int .i64 0] 30).own k_) W72
            refine t_q (n := 12) 0 (.agg #[.slice A xs.length c, .int .i64 (ca : Int)]) rfl (by kernel_rfl) (by kernel_rfl) (fun _ _ _ h => h) (fun w' hk => (R_loadN (p := ⟨g1, 0, none⟩) [.slice A xs.length c, .int .i64 (ca : Int)] (by kernel_rfl) (by kernel_rfl) (by kernel_rfl) (by kernel_rfl) (two_at (hk.cellN (fun h_ => h_.elim (HV.sepB (a := 7) (b := 4) (by decide) rfl rfl) (HV.sepB (a := 7) (b := 3) (by decide) rfl rfl)) (HV.cell (i := 7) (j := 0) rfl rfl)) (hk.cellN (fun h_ => h_.elim (HV.sepB (a := 7) (b := 4) (by decide) rfl rfl) (HV.sepB (a := 7) (b := 3) (by decide) rfl rfl)) (HV.cell (i := 7) (j := 1) rfl rfl))))) HK ?_
            refine t_q (n := 11) 1 (.agg #[.slice (cutA B d 1 1) ys.tail.length (d - 1), .int .i64 (cb : Int)]) rfl (by kernel_rfl) (by kernel_rfl) (fun _ _ _ h => h) (fun w' hk => (R_loadN (p := ⟨g68, 0, none⟩) [.slice (cutA B d 1 1) ys.tail.length (d - 1), .int .i64 (cb : Int)] (by kernel_rfl) (by kernel_rfl) (by kernel_rfl) (by kernel_rfl) (two_at (hk.cellN (fun h_ => h_.elim (HV.sepB (a := 2) (b := 4) (by decide) rfl rfl) (HV.sepB (a := 2) (b := 3) (by decide) rfl rfl)) (HV.cell (i := 2) (j := 0) rfl rfl)) (hk.cellN (fun h_ => h_.elim (HV.sepB (a := 2) (b := 4) (by decide) rfl rfl) (HV.sepB (a := 2) (b := 3) (by decide) rfl rfl)) (HV.cell (i := 2) (j := 1) rfl rfl))))) HK ?_
            refine t_q (n := 10) 2 (.int .i64 (rdI ys 0)) rfl (by kernel_rfl) (by kernel_rfl) (fun _ _ _ h => h) (fun w' hk => (by kernel_rfl)) HK ?_
            refine t_q (n := 9) 3 (.int .i64 (rdI ys 0)) rfl (by kernel_rfl) (by kernel_rfl) (fun _ _ _ h => h) (fun w' hk => (by kernel_rfl)) HK ?_
            refine t_q (n := 8) 4 (.bool true) rfl (by kernel_rfl) (by kernel_rfl) (fun _ _ _ h => h) (fun w' hk => (R_beq (b := (rdI ys 0 == rdI ys 0)) (by kernel_rfl) (beq_t (by omega)))) HK ?_
            refine t_q (n := 7) 5 (.bool true) rfl (by kernel_rfl) (by kernel_rfl) (fun _ _ _ h => h) (fun w' hk => (by kernel_rfl)) HK ?_
            refine t_q (n := 6) 6 (.bool true) rfl (by kernel_rfl) (by kernel_rfl) (fun _ _ _ h => h) (fun w' hk => (by kernel_rfl)) HK ?_
            refine t_q (n := 5) 7 (.bool true) rfl (by kernel_rfl) (by kernel_rfl) (fun _ _ _ h => h) (fun w' hk => (by kernel_rfl)) HK ?_
            refine t_q (n := 4) 8 (.bool true) rfl (by kernel_rfl) (by kernel_rfl) (fun _ _ _ h => h) (fun w' hk => (by kernel_rfl)) HK ?_
            refine t_q (n := 3) 9 (.bool true) rfl (by kernel_rfl) (by kernel_rfl) (fun _ _ _ h => h) (fun w' hk => (by kernel_rfl)) HK ?_
            obtain ⟨W73, hrun_, H_, hk_⟩ := ex_ks (P := Try.prog) (ty := 0) (ps := "law.go:34") (af := #[{ on := 0, ground := Go.Ground.data }, { on := 5, ground := Go.Ground.chain }, { on := 0, ground := Go.Ground.phase }, { on := 1, ground := (Go.Ground.textOnly Go.Departure.lateStores) }, { on := 2, ground := (Go.Ground.textOnly Go.Departure.lateStores) }, { on := 3, ground := (Go.Ground.textOnly Go.Departure.lateStores) }, { on := 4, ground := (Go.Ground.textOnly Go.Departure.lateStores) }, { on := 5, ground := (Go.Ground.textOnly Go.Departure.lateStores) }, { on := 6, ground := (Go.Ground.textOnly Go.Departure.lateStores) }, { on := 7, ground := (Go.Ground.textOnly Go.Departure.lateStores) }, { on := 8, ground := (Go.Ground.textOnly Go.Departure.lateStores) }, { on := 9, ground := (Go.Ground.textOnly Go.Departure.lateStores) }]) (gd := none) (t := 30) (x := (Go.Operand.tmp 10)) (y := (Go.Operand.tmp 105)) (v := .agg #[.slice A xs.length c, .int .i64 (ca : Int)]) HS 4 rfl (0) [.slice A xs.length c, .int .i64 (ca : Int)] (by kernel_rfl) (by kernel_rfl) (by kernel_rfl) (by kernel_rfl) (one_ (by kernel_rfl)) (Nat.le_of_ble_eq_true rfl)
            replace HK := HK.trans hk_ (fun _ h_ => .inl (.inl (blk_own h_)))
            refine t_s (n := 2) 10 rfl (by kernel_rfl) (by kernel_rfl) hrun_ HK ?_
            clear hk_ hrun_
            replace HS : St W M W73 [blk h [.chan (some q)] 46, chn q cb (ys.tail.map fun n : Int => Value.int .i64 n), blk g68 [.slice (cutA B d 1 1) ys.tail.length (d - 1), .int .i64 (cb : Int)] 30, blk g9 [.slice none 0 0, .int .i64 0] 30, blk g7 [.slice A xs.length c, .int .i64 (ca : Int)] 30, blk g5 [.int .i64 k, .int .i64 m] 34, blk g3 [.slice B ys.length d, .int .i64 (cb : Int)] 30, blk g1 [.slice A xs.length c, .int .i64 (ca : Int)] 30, blk g [.chan (some p)] 46, chn p ca (xs.map fun n : Int => Value.int .i64 n), rde A (ci .i64 xs), rde (cutA B d 1 1) (ci .i64 ys.tail)] := H_
            clear H_
            obtain ⟨W74, hrun_, H_, hk_⟩ := ex_ks (P := Try.prog) (ty := 0) (ps := "law.go:34") (af := #[{ on := 1, ground := Go.Ground.data }, { on := 10, ground := Go.Ground.chain }, { on := 0, ground := Go.Ground.phase }, { on := 1, ground := Go.Ground.phase }, { on := 2, ground := (Go.Ground.textOnly Go.Departure.lateStores) }, { on := 3, ground := (Go.Ground.textOnly Go.Departure.lateStores) }, { on := 4, ground := (Go.Ground.textOnly Go.Departure.lateStores) }, { on := 5, ground := (Go.Ground.textOnly Go.Departure.lateStores) }, { on := 6, ground := (Go.Ground.textOnly Go.Departure.lateStores) }, { on := 7, ground := (Go.Ground.textOnly Go.Departure.lateStores) }, { on := 8, ground := (Go.Ground.textOnly Go.Departure.lateStores) }, { on := 9, ground := (Go.Ground.textOnly Go.Departure.lateStores) }, { on := 10, ground := Go.Ground.phase }]) (gd := none) (t := 30) (x := (Go.Operand.tmp 11)) (y := (Go.Operand.tmp 106)) (v := .agg #[.slice (cutA B d 1 1) ys.tail.length (d - 1), .int .i64 (cb : Int)]) HS 3 rfl (0) [.slice (cutA B d 1 1) ys.tail.length (d - 1), .int .i64 (cb : Int)] (by kernel_rfl) (by kernel_rfl) (by kernel_rfl) (by kernel_rfl) (one_ (by kernel_rfl)) (Nat.le_of_ble_eq_true rfl)
            replace HK := HK.trans hk_ (fun _ h_ => .inl (.inr (blk_own h_)))
            refine t_s (n := 1) 11 rfl (by kernel_rfl) (by kernel_rfl) hrun_ HK ?_
            clear hk_ hrun_
            replace HS : St W M W74 [blk h [.chan (some q)] 46, chn q cb (ys.tail.map fun n : Int => Value.int .i64 n), blk g68 [.slice (cutA B d 1 1) ys.tail.length (d - 1), .int .i64 (cb : Int)] 30, blk g9 [.slice (cutA B d 1 1) ys.tail.length (d - 1), .int .i64 (cb : Int)] 30, blk g7 [.slice A xs.length c, .int .i64 (ca : Int)] 30, blk g5 [.int .i64 k, .int .i64 m] 34, blk g3 [.slice B ys.length d, .int .i64 (cb : Int)] 30, blk g1 [.slice A xs.length c, .int .i64 (ca : Int)] 30, blk g [.chan (some p)] 46, chn p ca (xs.map fun n : Int => Value.int .i64 n), rde A (ci .i64 xs), rde (cutA B d 1 1) (ci .i64 ys.tail)] := H_
            clear H_
            refine t_q (n := 0) 12 (.bool true) rfl (by kernel_rfl) (by kernel_rfl) (fun _ _ _ h => h) (fun w' hk => (by kernel_rfl)) HK ?_
            refine t_done (by kernel_rfl) ?_
            clear HV HK
            refine x_then ?_
            refine wp_ret ?_
            refine x_inbR ?_
            refine x_thenR ?_
            refine ret_ (.tuple #[.agg #[.slice A xs.length c, .int .i64 (ca : Int)], .agg #[.slice (cutA B d 1 1) ys.tail.length (d - 1), .int .i64 (cb : Int)], .bool true]) (res3 rfl (oneRes_agg (p := ⟨g7, 0, none⟩) [.slice A xs.length c, .int .i64 (ca : Int)] (by kernel_rfl) (by kernel_rfl) (by kernel_rfl) (by kernel_rfl) (HS.cellsN (i := 4) rfl)) (oneRes_agg (p := ⟨g9, 0, none⟩) [.slice (cutA B d 1 1) ys.tail.length (d - 1), .int .i64 (cb : Int)] (by kernel_rfl) (by kernel_rfl) (by kernel_rfl) (by kernel_rfl) (HS.cellsN (i := 3) rfl)) (oneRes_t (by kernel_rfl))) ?_
            replace HS : St W M W74 [blk g [.chan (some p)] 46, chn p ca (xs.map fun n : Int => Value.int .i64 n), blk h [.chan (some q)] 46, chn q cb (ys.tail.map fun n : Int => Value.int .i64 n), rde A (ci .i64 xs), rde (cutA B d 1 1) (ci .i64 ys.tail)] := St.tail (F := [blk g68 [.slice (cutA B d 1 1) ys.tail.length (d - 1), .int .i64 (cb : Int)] 30, blk g9 [.slice (cutA B d 1 1) ys.tail.length (d - 1), .int .i64 (cb : Int)] 30, blk g7 [.slice A xs.length c, .int .i64 (ca : Int)] 30, blk g5 [.int .i64 k, .int .i64 m] 34, blk g3 [.slice B ys.length d, .int .i64 (cb : Int)] 30, blk g1 [.slice A xs.length c, .int .i64 (ca : Int)] 30]) (HS.perm (perm_ [2, 3, 4, 5, 6, 7, 8, 9, 0, 1, 10, 11] (by kernel_rfl) rfl))
            exact ⟨xs, ys.tail, _, _, _, _, rfl, HS, by first | omega | (simp only [List.length_append, List.length_cons, List.length_nil, List.length_tail, List.length_drop, List.length_take]; omega), by first | omega | (simp only [List.length_append, List.length_cons, List.length_nil, List.length_tail, List.length_drop, List.length_take]; omega), by first | omega | (simp only [List.length_append, List.length_cons, List.length_nil, List.length_tail, List.length_drop, List.length_take]; omega), by first | omega | (simp only [List.length_append, List.length_cons, List.length_nil, List.length_tail, List.length_drop, List.length_take]; omega)⟩
          · skip
            refine (rpget_nil _ d ys (cb : Int) _ (HS.get (i := 10) rfl) (by omega) (by omega) (by omega)).mono ?_
            rintro e W75 ⟨rfl, H_⟩
            refine ⟨_, rfl, ?_⟩
            replace HS : St W M W75 [blk g9 [.slice none 0 0, .int .i64 0] 30, blk g7 [.slice none 0 0, .int .i64 0] 30, blk g5 [.int .i64 k, .int .i64 m] 34, blk g3 [.slice B ys.length d, .int .i64 (cb : Int)] 30, blk g1 [.slice A xs.length c, .int .i64 (ca : Int)] 30, blk g [.chan (some p)] 46, chn p ca (xs.map fun n : Int => Value.int .i64 n), blk h [.chan (some q)] 46, chn q cb (ys.map fun n : Int => Value.int .i64 n), rde A (ci .i64 xs), rde B (ci .i64 ys)] := HS.join (F := []) (G := []) H_
            clear H_
            refine ql (.tuple #[.agg #[.slice B ys.length d, .int .i64 (cb : Int)], .int .i64 0, .bool false]) (by kernel_rfl) (by kernel_rfl) ?_
            refine ql (.agg #[.slice B ys.length d, .int .i64 (cb : Int)]) (by kernel_rfl) (by kernel_rfl) ?_
            refine ql (.int .i64 0) (by kernel_rfl) (by kernel_rfl) ?_
            refine ql (.bool false) (by kernel_rfl) (by kernel_rfl) ?_
            refine kb HS [.slice none 0 0, .int .i64 0] 30 (fun g => .pointer (some ⟨g, 0, none⟩)) (by kernel_rfl) (by kernel_rfl) ?_
            intro g76 W77 H_
            replace HS : St W M W77 [blk g76 [.slice none 0 0, .int .i64 0] 30, blk g9 [.slice none 0 0, .int .i64 0] 30, blk g7 [.slice none 0 0, .int .i64 0] 30, blk g5 [.int .i64 k, .int .i64 m] 34, blk g3 [.slice B ys.length d, .int .i64 (cb : Int)] 30, blk g1 [.slice A xs.length c, .int .i64 (ca : Int)] 30, blk g [.chan (some p)] 46, chn p ca (xs.map fun n : Int => Value.int .i64 n), blk h [.chan (some q)] 46, chn q cb (ys.map fun n : Int => Value.int .i64 n), rde A (ci .i64 xs), rde B (ci .i64 ys)] := H_
            clear H_
            refine ks (v := .agg #[.slice B ys.length d, .int .i64 (cb : Int)]) HS 0 rfl (0) [.slice B ys.length d, .int .i64 (cb : Int)] (by kernel_rfl) (by kernel_rfl) (by kernel_rfl) (by kernel_rfl) (by kernel_rfl) (one_ (by kernel_rfl)) (Nat.le_of_ble_eq_true rfl) rfl ?_
            intro W78 H_
            replace HS : St W M W78 [blk g76 [.slice B ys.length d, .int .i64 (cb : Int)] 30, blk g9 [.slice none 0 0, .int .i64 0] 30, blk g7 [.slice none 0 0, .int .i64 0] 30, blk g5 [.int .i64 k, .int .i64 m] 34, blk g3 [.slice B ys.length d, .int .i64 (cb : Int)] 30, blk g1 [.slice A xs.length c, .int .i64 (ca : Int)] 30, blk g [.chan (some p)] 46, chn p ca (xs.map fun n : Int => Value.int .i64 n), blk h [.chan (some q)] 46, chn q cb (ys.map fun n : Int => Value.int .i64 n), rde A (ci .i64 xs), rde B (ci .i64 ys)] := H_
            clear H_
            refine ql (.int .i64 0) (by kernel_rfl) (by kernel_rfl) ?_
            refine ql (.bool false) (by kernel_rfl) (by kernel_rfl) ?_
            refine wpList_nil ?_
            refine x_then ?_
            refine wp_seq ?_
            refine wp_region_lit ?_
            refine ql (.pointer (some ⟨h, 0, none⟩)) (by kernel_rfl) (by kernel_rfl) ?_
            refine qc (f := 18) (args := #[.pointer (some ⟨h, 0, none⟩)]) (by kernel_rfl) (R_call #[.pointer (some ⟨h, 0, none⟩)] Try.func18 (by kernel_rfl) (by kernel_rfl) (by kernel_rfl)) ?_
            replace HS : St W M W78 [blk h [.chan (some q)] 46, chn q cb (ys.map fun n : Int => Value.int .i64 n), blk g76 [.slice B ys.length d, .int .i64 (cb : Int)] 30, blk g9 [.slice none 0 0, .int .i64 0] 30, blk g7 [.slice none 0 0, .int .i64 0] 30, blk g5 [.int .i64 k, .int .i64 m] 34, blk g3 [.slice B ys.length d, .int .i64 (cb : Int)] 30, blk g1 [.slice A xs.length c, .int .i64 (ca : Int)] 30, blk g [.chan (some p)] 46, chn p ca (xs.map fun n : Int => Value.int .i64 n), rde A (ci .i64 xs), rde B (ci .i64 ys)] := HS.perm (perm_ [8, 9, 0, 1, 2, 3, 4, 5, 6, 7, 10, 11] (by kernel_rfl) rfl)
            refine (pget_nl h q cb ys _ _ (St.focus (F := [blk h [.chan (some q)] 46, chn q cb (ys.map fun n : Int => Value.int .i64 n)]) HS) (by omega)).mono ?_
            rintro e W79 ⟨rfl, H_⟩
            refine ⟨_, rfl, ?_⟩
            replace HS : St W M W79 [blk h [.chan (some q)] 46, chn q cb (ys.map fun n : Int => Value.int .i64 n), blk g76 [.slice B ys.length d, .int .i64 (cb : Int)] 30, blk g9 [.slice none 0 0, .int .i64 0] 30, blk g7 [.slice none 0 0, .int .i64 0] 30, blk g5 [.int .i64 k, .int .i64 m] 34, blk g3 [.slice B ys.length d, .int .i64 (cb : Int)] 30, blk g1 [.slice A xs.length c, .int .i64 (ca : Int)] 30, blk g [.chan (some p)] 46, chn p ca (xs.map fun n : Int => Value.int .i64 n), rde A (ci .i64 xs), rde B (ci .i64 ys)] := HS.join (F := [blk h [.chan (some q)] 46, chn q cb (ys.map fun n : Int => Value.int .i64 n)]) (G := [blk h [.chan (some q)] 46, chn q cb (ys.map fun n : Int => Value.int .i64 n)]) H_
            clear H_
            refine ql (.tuple #[.int .i64 0, .bool false]) (by kernel_rfl) (by kernel_rfl) ?_
            refine ql (.int .i64 0) (by kernel_rfl) (by kernel_rfl) ?_
            refine ql (.bool false) (by kernel_rfl) (by kernel_rfl) ?_
            refine ql (.int .i64 0) (by kernel_rfl) (by kernel_rfl) ?_
            refine ql (.bool false) (by kernel_rfl) (by kernel_rfl) ?_
            refine wpList_nil ?_
            refine x_then ?_
            refine wp_seq ?_
            refine t_start HS (fun k_ => (blk g7 [.slice none 0 0, .int .i64 0] 30).own k_ ∨ (blk g9 [.slice none 0 0, .int .i64 0] 30).own k_) 13 (by kernel_rfl) rfl ?_
            intro W80 H_ HD_
            clear HD_
            replace HS : St W M W80 [blk h [.chan (some q)] 46, chn q cb (ys.map fun n : Int => Value.int .i64 n), blk g76 [.slice B ys.length d, .int .i64 (cb : Int)] 30, blk g9 [.slice none 0 0, .int .i64 0] 30, blk g7 [.slice none 0 0, .int .i64 0] 30, blk g5 [.int .i64 k, .int .i64 m] 34, blk g3 [.slice B ys.length d, .int .i64 (cb : Int)] 30, blk g1 [.slice A xs.length c, .int .i64 (ca : Int)] 30, blk g [.chan (some p)] 46, chn p ca (xs.map fun n : Int => Value.int .i64 n), rde A (ci .i64 xs), rde B (ci .i64 ys)] := H_
            clear H_
            have HV := HS
            have HK := Kpt.refl (fun k_ => (blk g7 [.slice none 0 0, .int .i64 0] 30).own k_ ∨ (blk g9 [.slice none 0 0, .int .i64 0] 30).own k_) W80
            refine t_q (n := 12) 0 (.agg #[.slice A xs.length c, .int .i64 (ca : Int)]) rfl (by kernel_rfl) (by kernel_rfl) (fun _ _ _ h => h) (fun w' hk => (R_loadN (p := ⟨g1, 0, none⟩) [.slice A xs.length c, .int .i64 (ca : Int)] (by kernel_rfl) (by kernel_rfl) (by kernel_rfl) (by kernel_rfl) (two_at (hk.cellN (fun h_ => h_.elim (HV.sepB (a := 7) (b := 4) (by decide) rfl rfl) (HV.sepB (a := 7) (b := 3) (by decide) rfl rfl)) (HV.cell (i := 7) (j := 0) rfl rfl)) (hk.cellN (fun h_ => h_.elim (HV.sepB (a := 7) (b := 4) (by decide) rfl rfl) (HV.sepB (a := 7) (b := 3) (by decide) rfl rfl)) (HV.cell (i := 7) (j := 1) rfl rfl))))) HK ?_
            refine t_q (n := 11) 1 (.agg #[.slice B ys.length d, .int .i64 (cb : Int)]) rfl (by kernel_rfl) (by kernel_rfl) (fun _ _ _ h => h) (fun w' hk => (R_loadN (p := ⟨g76, 0, none⟩) [.slice B ys.length d, .int .i64 (cb : Int)] (by kernel_rfl) (by kernel_rfl) (by kernel_rfl) (by kernel_rfl) (two_at (hk.cellN (fun h_ => h_.elim (HV.sepB (a := 2) (b := 4) (by decide) rfl rfl) (HV.sepB (a := 2) (b := 3) (by decide) rfl rfl)) (HV.cell (i := 2) (j := 0) rfl rfl)) (hk.cellN (fun h_ => h_.elim (HV.sepB (a := 2) (b := 4) (by decide) rfl rfl) (HV.sepB (a := 2) (b := 3) (by decide) rfl rfl)) (HV.cell (i := 2) (j := 1) rfl rfl))))) HK ?_
            refine t_q (n := 10) 2 (.int .i64 0) rfl (by kernel_rfl) (by kernel_rfl) (fun _ _ _ h => h) (fun w' hk => (by kernel_rfl)) HK ?_
            refine t_q (n := 9) 3 (.int .i64 0) rfl (by kernel_rfl) (by kernel_rfl) (fun _ _ _ h => h) (fun w' hk => (by kernel_rfl)) HK ?_
            refine t_q (n := 8) 4 (.bool true) rfl (by kernel_rfl) (by kernel_rfl) (fun _ _ _ h => h) (fun w' hk => (R_beq (b := ((0 : Int) == 0)) (by kernel_rfl) (by decide))) HK ?_
            refine t_q (n := 7) 5 (.bool true) rfl (by kernel_rfl) (by kernel_rfl) (fun _ _ _ h => h) (fun w' hk => (by kernel_rfl)) HK ?_
            refine t_q (n := 6) 6 (.bool false) rfl (by kernel_rfl) (by kernel_rfl) (fun _ _ _ h => h) (fun w' hk => (by kernel_rfl)) HK ?_
            refine t_q (n := 5) 7 (.bool false) rfl (by kernel_rfl) (by kernel_rfl) (fun _ _ _ h => h) (fun w' hk => (by kernel_rfl)) HK ?_
            refine t_q (n := 4) 8 (.bool true) rfl (by kernel_rfl) (by kernel_rfl) (fun _ _ _ h => h) (fun w' hk => (by kernel_rfl)) HK ?_
            refine t_q (n := 3) 9 (.bool true) rfl (by kernel_rfl) (by kernel_rfl) (fun _ _ _ h => h) (fun w' hk => (by kernel_rfl)) HK ?_
            obtain ⟨W81, hrun_, H_, hk_⟩ := ex_ks (P := Try.prog) (ty := 0) (ps := "law.go:34") (af := #[{ on := 0, ground := Go.Ground.data }, { on := 5, ground := Go.Ground.chain }, { on := 0, ground := Go.Ground.phase }, { on := 1, ground := (Go.Ground.textOnly Go.Departure.lateStores) }, { on := 2, ground := (Go.Ground.textOnly Go.Departure.lateStores) }, { on := 3, ground := (Go.Ground.textOnly Go.Departure.lateStores) }, { on := 4, ground := (Go.Ground.textOnly Go.Departure.lateStores) }, { on := 5, ground := (Go.Ground.textOnly Go.Departure.lateStores) }, { on := 6, ground := (Go.Ground.textOnly Go.Departure.lateStores) }, { on := 7, ground := (Go.Ground.textOnly Go.Departure.lateStores) }, { on := 8, ground := (Go.Ground.textOnly Go.Departure.lateStores) }, { on := 9, ground := (Go.Ground.textOnly Go.Departure.lateStores) }]) (gd := none) (t := 30) (x := (Go.Operand.tmp 10)) (y := (Go.Operand.tmp 105)) (v := .agg #[.slice A xs.length c, .int .i64 (ca : Int)]) HS 4 rfl (0) [.slice A xs.length c, .int .i64 (ca : Int)] (by kernel_rfl) (by kernel_rfl) (by kernel_rfl) (by kernel_rfl) (one_ (by kernel_rfl)) (Nat.le_of_ble_eq_true rfl)
            replace HK := HK.trans hk_ (fun _ h_ => .inl (.inl (blk_own h_)))
            refine t_s (n := 2) 10 rfl (by kernel_rfl) (by kernel_rfl) hrun_ HK ?_
            clear hk_ hrun_
            replace HS : St W M W81 [blk h [.chan (some q)] 46, chn q cb (ys.map fun n : Int => Value.int .i64 n), blk g76 [.slice B ys.length d, .int .i64 (cb : Int)] 30, blk g9 [.slice none 0 0, .int .i64 0] 30, blk g7 [.slice A xs.length c, .int .i64 (ca : Int)] 30, blk g5 [.int .i64 k, .int .i64 m] 34, blk g3 [.slice B ys.length d, .int .i64 (cb : Int)] 30, blk g1 [.slice A xs.length c, .int .i64 (ca : Int)] 30, blk g [.chan (some p)] 46, chn p ca (xs.map fun n : Int => Value.int .i64 n), rde A (ci .i64 xs), rde B (ci .i64 ys)] := H_
            clear H_
            obtain ⟨W82, hrun_, H_, hk_⟩ := ex_ks (P := Try.prog) (ty := 0) (ps := "law.go:34") (af := #[{ on := 1, ground := Go.Ground.data }, { on := 10, ground := Go.Ground.chain }, { on := 0, ground := Go.Ground.phase }, { on := 1, ground := Go.Ground.phase }, { on := 2, ground := (Go.Ground.textOnly Go.Departure.lateStores) }, { on := 3, ground := (Go.Ground.textOnly Go.Departure.lateStores) }, { on := 4, ground := (Go.Ground.textOnly Go.Departure.lateStores) }, { on := 5, ground := (Go.Ground.textOnly Go.Departure.lateStores) }, { on := 6, ground := (Go.Ground.textOnly Go.Departure.lateStores) }, { on := 7, ground := (Go.Ground.textOnly Go.Departure.lateStores) }, { on := 8, ground := (Go.Ground.textOnly Go.Departure.lateStores) }, { on := 9, ground := (Go.Ground.textOnly Go.Departure.lateStores) }, { on := 10, ground := Go.Ground.phase }]) (gd := none) (t := 30) (x := (Go.Operand.tmp 11)) (y := (Go.Operand.tmp 106)) (v := .agg #[.slice B ys.length d, .int .i64 (cb : Int)]) HS 3 rfl (0) [.slice B ys.length d, .int .i64 (cb : Int)] (by kernel_rfl) (by kernel_rfl) (by kernel_rfl) (by kernel_rfl) (one_ (by kernel_rfl)) (Nat.le_of_ble_eq_true rfl)
            replace HK := HK.trans hk_ (fun _ h_ => .inl (.inr (blk_own h_)))
            refine t_s (n := 1) 11 rfl (by kernel_rfl) (by kernel_rfl) hrun_ HK ?_
            clear hk_ hrun_
            replace HS : St W M W82 [blk h [.chan (some q)] 46, chn q cb (ys.map fun n : Int => Value.int .i64 n), blk g76 [.slice B ys.length d, .int .i64 (cb : Int)] 30, blk g9 [.slice B ys.length d, .int .i64 (cb : Int)] 30, blk g7 [.slice A xs.length c, .int .i64 (ca : Int)] 30, blk g5 [.int .i64 k, .int .i64 m] 34, blk g3 [.slice B ys.length d, .int .i64 (cb : Int)] 30, blk g1 [.slice A xs.length c, .int .i64 (ca : Int)] 30, blk g [.chan (some p)] 46, chn p ca (xs.map fun n : Int => Value.int .i64 n), rde A (ci .i64 xs), rde B (ci .i64 ys)] := H_
            clear H_
            refine t_q (n := 0) 12 (.bool true) rfl (by kernel_rfl) (by kernel_rfl) (fun _ _ _ h => h) (fun w' hk => (by kernel_rfl)) HK ?_
            refine t_done (by kernel_rfl) ?_
            clear HV HK
            refine x_then ?_
            refine wp_ret ?_
            refine x_inbR ?_
            refine x_thenR ?_
            refine ret_ (.tuple #[.agg #[.slice A xs.length c, .int .i64 (ca : Int)], .agg #[.slice B ys.length d, .int .i64 (cb : Int)], .bool true]) (res3 rfl (oneRes_agg (p := ⟨g7, 0, none⟩) [.slice A xs.length c, .int .i64 (ca : Int)] (by kernel_rfl) (by kernel_rfl) (by kernel_rfl) (by kernel_rfl) (HS.cellsN (i := 4) rfl)) (oneRes_agg (p := ⟨g9, 0, none⟩) [.slice B ys.length d, .int .i64 (cb : Int)] (by kernel_rfl) (by kernel_rfl) (by kernel_rfl) (by kernel_rfl) (HS.cellsN (i := 3) rfl)) (oneRes_t (by kernel_rfl))) ?_
            replace HS : St W M W82 [blk g [.chan (some p)] 46, chn p ca (xs.map fun n : Int => Value.int .i64 n), blk h [.chan (some q)] 46, chn q cb (ys.map fun n : Int => Value.int .i64 n), rde A (ci .i64 xs), rde B (ci .i64 ys)] := St.tail (F := [blk g76 [.slice B ys.length d, .int .i64 (cb : Int)] 30, blk g9 [.slice B ys.length d, .int .i64 (cb : Int)] 30, blk g7 [.slice A xs.length c, .int .i64 (ca : Int)] 30, blk g5 [.int .i64 k, .int .i64 m] 34, blk g3 [.slice B ys.length d, .int .i64 (cb : Int)] 30, blk g1 [.slice A xs.length c, .int .i64 (ca : Int)] 30]) (HS.perm (perm_ [2, 3, 4, 5, 6, 7, 8, 9, 0, 1, 10, 11] (by kernel_rfl) rfl))
            exact ⟨xs, ys, _, _, _, _, rfl, HS, by first | omega | (simp only [List.length_append, List.length_cons, List.length_nil, List.length_tail, List.length_drop, List.length_take]; omega), by first | omega | (simp only [List.length_append, List.length_cons, List.length_nil, List.length_tail, List.length_drop, List.length_take]; omega), by first | omega | (simp only [List.length_append, List.length_cons, List.length_nil, List.length_tail, List.length_drop, List.length_take]; omega), by first | omega | (simp only [List.length_append, List.length_cons, List.length_nil, List.length_tail, List.length_drop, List.length_take]; omega)⟩
        · skip
          refine ql (.bool false) (by kernel_rfl) (R_beq (b := (k == (3 : Int))) (by kernel_rfl) (beq_f (hc66))) ?_
          refine ql (.bool false) (by kernel_rfl) (by kernel_rfl) ?_
          refine wpList_nil ?_
          refine x_then ?_
          refine wp_cond_false (by kernel_rfl) ?_
          refine wp_seq ?_
          refine wp_region_lit ?_
          by_cases hc83 : k = (4 : Int)
          · skip
            refine ql (.bool true) (by kernel_rfl) (R_beq (b := (k == (4 : Int))) (by kernel_rfl) (beq_t (hc83))) ?_
            refine ql (.bool true) (by kernel_rfl) (by kernel_rfl) ?_
            refine wpList_nil ?_
            refine x_then ?_
            refine wp_cond_true (by kernel_rfl) ?_
            refine wp_seq ?_
            refine wp_region_lit ?_
            refine ql (.agg #[.slice A xs.length c, .int .i64 (ca : Int)]) (by kernel_rfl) (R_loadN (p := ⟨g1, 0, none⟩) [.slice A xs.length c, .int .i64 (ca : Int)] (by kernel_rfl) (by kernel_rfl) (by kernel_rfl) (by kernel_rfl) (two_at (HS.cell (i := 4) (j := 0) rfl rfl) (HS.cell (i := 4) (j := 1) rfl rfl))) ?_
            refine ql (.agg #[.slice B ys.length d, .int .i64 (cb : Int)]) (by kernel_rfl) (R_loadN (p := ⟨g3, 0, none⟩) [.slice B ys.length d, .int .i64 (cb : Int)] (by kernel_rfl) (by kernel_rfl) (by kernel_rfl) (by kernel_rfl) (two_at (HS.cell (i := 3) (j := 0) rfl rfl) (HS.cell (i := 3) (j := 1) rfl rfl))) ?_
            refine qc (f := 19) (args := #[.agg #[.slice A xs.length c, .int .i64 (ca : Int)], .agg #[.slice B ys.length d, .int .i64 (cb : Int)]]) (by kernel_rfl) (R_call #[.agg #[.slice A xs.length c, .int .i64 (ca : Int)], .agg #[.slice B ys.length d, .int .i64 (cb : Int)]] Try.func19 (by kernel_rfl) (by kernel_rfl) (by kernel_rfl)) ?_
            replace HS : St W M W10 [rde A (ci .i64 xs), rde B (ci .i64 ys), blk g9 [.slice none 0 0, .int .i64 0] 30, blk g7 [.slice none 0 0, .int .i64 0] 30, blk g5 [.int .i64 k, .int .i64 m] 34, blk g3 [.slice B ys.length d, .int .i64 (cb : Int)] 30, blk g1 [.slice A xs.length c, .int .i64 (ca : Int)] 30, blk g [.chan (some p)] 46, chn p ca (xs.map fun n : Int => Value.int .i64 n), blk h [.chan (some q)] 46, chn q cb (ys.map fun n : Int => Value.int .i64 n)] := HS.perm (perm_ [9, 10, 0, 1, 2, 3, 4, 5, 6, 7, 8] (by kernel_rfl) rfl)
            refine (rpmove A c xs ca B d ys cb _ _ (St.focus (F := [rde A (ci .i64 xs), rde B (ci .i64 ys)]) HS) (by omega) (by omega) (by omega) (by omega) (by omega)).mono ?_
            rintro e W84 ⟨A5, c5, B5, d5, rfl, H_, hc5, hd5⟩
            refine ⟨_, rfl, ?_⟩
            replace HS : St W M W84 [rde A5 (ci .i64 (xs.drop (min xs.length (cb - ys.length)))), rde B5 (ci .i64 (ys ++ xs.take (min xs.length (cb - ys.length)))), blk g9 [.slice none 0 0, .int .i64 0] 30, blk g7 [.slice none 0 0, .int .i64 0] 30, blk g5 [.int .i64 k, .int .i64 m] 34, blk g3 [.slice B ys.length d, .int .i64 (cb : Int)] 30, blk g1 [.slice A xs.length c, .int .i64 (ca : Int)] 30, blk g [.chan (some p)] 46, chn p ca (xs.map fun n : Int => Value.int .i64 n), blk h [.chan (some q)] 46, chn q cb (ys.map fun n : Int => Value.int .i64 n)] := HS.join (F := [rde A (ci .i64 xs), rde B (ci .i64 ys)]) (G := [rde A5 (ci .i64 (xs.drop (min xs.length (cb - ys.length)))), rde B5 (ci .i64 (ys ++ xs.take (min xs.length (cb - ys.length))))]) H_
            clear H_
            refine ql (.tuple #[.agg #[.slice A5 ((xs.drop (min xs.length (cb - ys.length))).length) c5, .int .i64 (ca : Int)], .agg #[.slice B5 ((ys ++ xs.take (min xs.length (cb - ys.length))).length) d5, .int .i64 (cb : Int)], .int .i64 (((min xs.length (cb - ys.length)) : Nat) : Int)]) (by kernel_rfl) (by kernel_rfl) ?_
            refine ql (.agg #[.slice A5 ((xs.drop (min xs.length (cb - ys.length))).length) c5, .int .i64 (ca : Int)]) (by kernel_rfl) (by kernel_rfl) ?_
            refine ql (.agg #[.slice B5 ((ys ++ xs.take (min xs.length (cb - ys.length))).length) d5, .int .i64 (cb : Int)]) (by kernel_rfl) (by kernel_rfl) ?_
            refine ql (.int .i64 (((min xs.length (cb - ys.length)) : Nat) : Int)) (by kernel_rfl) (by kernel_rfl) ?_
            refine kb HS [.slice none 0 0, .int .i64 0] 30 (fun g => .pointer (some ⟨g, 0, none⟩)) (by kernel_rfl) (by kernel_rfl) ?_
            intro g85 W86 H_
            replace HS : St W M W86 [blk g85 [.slice none 0 0, .int .i64 0] 30, rde A5 (ci .i64 (xs.drop (min xs.length (cb - ys.length)))), rde B5 (ci .i64 (ys ++ xs.take (min xs.length (cb - ys.length)))), blk g9 [.slice none 0 0, .int .i64 0] 30, blk g7 [.slice none 0 0, .int .i64 0] 30, blk g5 [.int .i64 k, .int .i64 m] 34, blk g3 [.slice B ys.length d, .int .i64 (cb : Int)] 30, blk g1 [.slice A xs.length c, .int .i64 (ca : Int)] 30, blk g [.chan (some p)] 46, chn p ca (xs.map fun n : Int => Value.int .i64 n), blk h [.chan (some q)] 46, chn q cb (ys.map fun n : Int => Value.int .i64 n)] := H_
            clear H_
            refine kb HS [.slice none 0 0, .int .i64 0] 30 (fun g => .pointer (some ⟨g, 0, none⟩)) (by kernel_rfl) (by kernel_rfl) ?_
            intro g87 W88 H_
            replace HS : St W M W88 [blk g87 [.slice none 0 0, .int .i64 0] 30, blk g85 [.slice none 0 0, .int .i64 0] 30, rde A5 (ci .i64 (xs.drop (min xs.length (cb - ys.length)))), rde B5 (ci .i64 (ys ++ xs.take (min xs.length (cb - ys.length)))), blk g9 [.slice none 0 0, .int .i64 0] 30, blk g7 [.slice none 0 0, .int .i64 0] 30, blk g5 [.int .i64 k, .int .i64 m] 34, blk g3 [.slice B ys.length d, .int .i64 (cb : Int)] 30, blk g1 [.slice A xs.length c, .int .i64 (ca : Int)] 30, blk g [.chan (some p)] 46, chn p ca (xs.map fun n : Int => Value.int .i64 n), blk h [.chan (some q)] 46, chn q cb (ys.map fun n : Int => Value.int .i64 n)] := H_
            clear H_
            refine ks (v := .agg #[.slice A5 ((xs.drop (min xs.length (cb - ys.length))).length) c5, .int .i64 (ca : Int)]) HS 1 rfl (0) [.slice A5 ((xs.drop (min xs.length (cb - ys.length))).length) c5, .int .i64 (ca : Int)] (by kernel_rfl) (by kernel_rfl) (by kernel_rfl) (by kernel_rfl) (by kernel_rfl) (one_ (by kernel_rfl)) (Nat.le_of_ble_eq_true rfl) rfl ?_
            intro W89 H_
            replace HS : St W M W89 [blk g87 [.slice none 0 0, .int .i64 0] 30, blk g85 [.slice A5 ((xs.drop (min xs.length (cb - ys.length))).length) c5, .int .i64 (ca : Int)] 30, rde A5 (ci .i64 (xs.drop (min xs.length (cb - ys.length)))), rde B5 (ci .i64 (ys ++ xs.take (min xs.length (cb - ys.length)))), blk g9 [.slice none 0 0, .int .i64 0] 30, blk g7 [.slice none 0 0, .int .i64 0] 30, blk g5 [.int .i64 k, .int .i64 m] 34, blk g3 [.slice B ys.length d, .int .i64 (cb : Int)] 30, blk g1 [.slice A xs.length c, .int .i64 (ca : Int)] 30, blk g [.chan (some p)] 46, chn p ca (xs.map fun n : Int => Value.int .i64 n), blk h [.chan (some q)] 46, chn q cb (ys.map fun n : Int => Value.int .i64 n)] := H_
            clear H_
            refine ks (v := .agg #[.slice B5 ((ys ++ xs.take (min xs.length (cb - ys.length))).length) d5, .int .i64 (cb : Int)]) HS 0 rfl (0) [.slice B5 ((ys ++ xs.take (min xs.length (cb - ys.length))).length) d5, .int .i64 (cb : Int)] (by kernel_rfl) (by kernel_rfl) (by kernel_rfl) (by kernel_rfl) (by kernel_rfl) (one_ (by kernel_rfl)) (Nat.le_of_ble_eq_true rfl) rfl ?_
            intro W90 H_
            replace HS : St W M W90 [blk g87 [.slice B5 ((ys ++ xs.take (min xs.length (cb - ys.length))).length) d5, .int .i64 (cb : Int)] 30, blk g85 [.slice A5 ((xs.drop (min xs.length (cb - ys.length))).length) c5, .int .i64 (ca : Int)] 30, rde A5 (ci .i64 (xs.drop (min xs.length (cb - ys.length)))), rde B5 (ci .i64 (ys ++ xs.take (min xs.length (cb - ys.length)))), blk g9 [.slice none 0 0, .int .i64 0] 30, blk g7 [.slice none 0 0, .int .i64 0] 30, blk g5 [.int .i64 k, .int .i64 m] 34, blk g3 [.slice B ys.length d, .int .i64 (cb : Int)] 30, blk g1 [.slice A xs.length c, .int .i64 (ca : Int)] 30, blk g [.chan (some p)] 46, chn p ca (xs.map fun n : Int => Value.int .i64 n), blk h [.chan (some q)] 46, chn q cb (ys.map fun n : Int => Value.int .i64 n)] := H_
            clear H_
            refine ql (.int .i64 (((min xs.length (cb - ys.length)) : Nat) : Int)) (by kernel_rfl) (by kernel_rfl) ?_
            refine wpList_nil ?_
            refine x_then ?_
            refine wp_seq ?_
            replace HS : St W M W90 [blk g [.chan (some p)] 46, chn p ca (xs.map fun n : Int => Value.int .i64 n), blk h [.chan (some q)] 46, chn q cb (ys.map fun n : Int => Value.int .i64 n), blk g87 [.slice B5 ((ys ++ xs.take (min xs.length (cb - ys.length))).length) d5, .int .i64 (cb : Int)] 30, blk g85 [.slice A5 ((xs.drop (min xs.length (cb - ys.length))).length) c5, .int .i64 (ca : Int)] 30, rde A5 (ci .i64 (xs.drop (min xs.length (cb - ys.length)))), rde B5 (ci .i64 (ys ++ xs.take (min xs.length (cb - ys.length)))), blk g9 [.slice none 0 0, .int .i64 0] 30, blk g7 [.slice none 0 0, .int .i64 0] 30, blk g5 [.int .i64 k, .int .i64 m] 34, blk g3 [.slice B ys.length d, .int .i64 (cb : Int)] 30, blk g1 [.slice A xs.length c, .int .i64 (ca : Int)] 30] := HS.perm (perm_ [9, 10, 11, 12, 0, 1, 2, 3, 4, 5, 6, 7, 8] (by kernel_rfl) rfl)
            refine t_start HS (fun k_ => (blk g [.chan (some p)] 46).own k_ ∨ (chn p ca (xs.map fun n : Int => Value.int .i64 n)).own k_ ∨ (blk h [.chan (some q)] 46).own k_ ∨ (chn q cb (ys.map fun n : Int => Value.int .i64 n)).own k_ ∨ (blk g7 [.slice none 0 0, .int .i64 0] 30).own k_ ∨ (blk g9 [.slice none 0 0, .int .i64 0] 30).own k_) 10 (by kernel_rfl) rfl ?_
            intro W91 H_ HD_
            clear HD_
            replace HS : St W M W91 [blk g [.chan (some p)] 46, chn p ca (xs.map fun n : Int => Value.int .i64 n), blk h [.chan (some q)] 46, chn q cb (ys.map fun n : Int => Value.int .i64 n), blk g87 [.slice B5 ((ys ++ xs.take (min xs.length (cb - ys.length))).length) d5, .int .i64 (cb : Int)] 30, blk g85 [.slice A5 ((xs.drop (min xs.length (cb - ys.length))).length) c5, .int .i64 (ca : Int)] 30, rde A5 (ci .i64 (xs.drop (min xs.length (cb - ys.length)))), rde B5 (ci .i64 (ys ++ xs.take (min xs.length (cb - ys.length)))), blk g9 [.slice none 0 0, .int .i64 0] 30, blk g7 [.slice none 0 0, .int .i64 0] 30, blk g5 [.int .i64 k, .int .i64 m] 34, blk g3 [.slice B ys.length d, .int .i64 (cb : Int)] 30, blk g1 [.slice A xs.length c, .int .i64 (ca : Int)] 30] := H_
            clear H_
            have HV := HS
            have HK := Kpt.refl (fun k_ => (blk g [.chan (some p)] 46).own k_ ∨ (chn p ca (xs.map fun n : Int => Value.int .i64 n)).own k_ ∨ (blk h [.chan (some q)] 46).own k_ ∨ (chn q cb (ys.map fun n : Int => Value.int .i64 n)).own k_ ∨ (blk g7 [.slice none 0 0, .int .i64 0] 30).own k_ ∨ (blk g9 [.slice none 0 0, .int .i64 0] 30).own k_) W91
            refine t_q (n := 9) 0 (.agg #[.slice A5 ((xs.drop (min xs.length (cb - ys.length))).length) c5, .int .i64 (ca : Int)]) rfl (by kernel_rfl) (by kernel_rfl) (fun _ _ _ h => h) (fun w' hk => (R_loadN (p := ⟨g85, 0, none⟩) [.slice A5 ((xs.drop (min xs.length (cb - ys.length))).length) c5, .int .i64 (ca : Int)] (by kernel_rfl) (by kernel_rfl) (by kernel_rfl) (by kernel_rfl) (two_at (hk.cellN (fun h_ => h_.elim (HV.sepB (a := 5) (b := 0) (by decide) rfl rfl) (fun h_ => h_.elim (HV.sepB (a := 5) (b := 1) (by decide) rfl rfl) (fun h_ => h_.elim (HV.sepB (a := 5) (b := 2) (by decide) rfl rfl) (fun h_ => h_.elim (HV.sepB (a := 5) (b := 3) (by decide) rfl rfl) (fun h_ => h_.elim (HV.sepB (a := 5) (b := 9) (by decide) rfl rfl) (HV.sepB (a := 5) (b := 8) (by decide) rfl rfl)))))) (HV.cell (i := 5) (j := 0) rfl rfl)) (hk.cellN (fun h_ => h_.elim (HV.sepB (a := 5) (b := 0) (by decide) rfl rfl) (fun h_ => h_.elim (HV.sepB (a := 5) (b := 1) (by decide) rfl rfl) (fun h_ => h_.elim (HV.sepB (a := 5) (b := 2) (by decide) rfl rfl) (fun h_ => h_.elim (HV.sepB (a := 5) (b := 3) (by decide) rfl rfl) (fun h_ => h_.elim (HV.sepB (a := 5) (b := 9) (by decide) rfl rfl) (HV.sepB (a := 5) (b := 8) (by decide) rfl rfl)))))) (HV.cell (i := 5) (j := 1) rfl rfl))))) HK ?_
            refine t_q (n := 8) 1 (.agg #[.slice B5 ((ys ++ xs.take (min xs.length (cb - ys.length))).length) d5, .int .i64 (cb : Int)]) rfl (by kernel_rfl) (by kernel_rfl) (fun _ _ _ h => h) (fun w' hk => (R_loadN (p := ⟨g87, 0, none⟩) [.slice B5 ((ys ++ xs.take (min xs.length (cb - ys.length))).length) d5, .int .i64 (cb : Int)] (by kernel_rfl) (by kernel_rfl) (by kernel_rfl) (by kernel_rfl) (two_at (hk.cellN (fun h_ => h_.elim (HV.sepB (a := 4) (b := 0) (by decide) rfl rfl) (fun h_ => h_.elim (HV.sepB (a := 4) (b := 1) (by decide) rfl rfl) (fun h_ => h_.elim (HV.sepB (a := 4) (b := 2) (by decide) rfl rfl) (fun h_ => h_.elim (HV.sepB (a := 4) (b := 3) (by decide) rfl rfl) (fun h_ => h_.elim (HV.sepB (a := 4) (b := 9) (by decide) rfl rfl) (HV.sepB (a := 4) (b := 8) (by decide) rfl rfl)))))) (HV.cell (i := 4) (j := 0) rfl rfl)) (hk.cellN (fun h_ => h_.elim (HV.sepB (a := 4) (b := 0) (by decide) rfl rfl) (fun h_ => h_.elim (HV.sepB (a := 4) (b := 1) (by decide) rfl rfl) (fun h_ => h_.elim (HV.sepB (a := 4) (b := 2) (by decide) rfl rfl) (fun h_ => h_.elim (HV.sepB (a := 4) (b := 3) (by decide) rfl rfl) (fun h_ => h_.elim (HV.sepB (a := 4) (b := 9) (by decide) rfl rfl) (HV.sepB (a := 4) (b := 8) (by decide) rfl rfl)))))) (HV.cell (i := 4) (j := 1) rfl rfl))))) HK ?_
            refine t_q (n := 7) 2 (.pointer (some ⟨g, 0, none⟩)) rfl (by kernel_rfl) (by kernel_rfl) (fun _ _ _ h => h) (fun w' hk => (by kernel_rfl)) HK ?_
            refine t_q (n := 6) 3 (.pointer (some ⟨h, 0, none⟩)) rfl (by kernel_rfl) (by kernel_rfl) (fun _ _ _ h => h) (fun w' hk => (by kernel_rfl)) HK ?_
            refine t_q (n := 5) 5 (.int .i64 (((min xs.length (cb - ys.length)) : Nat) : Int)) rfl (by kernel_rfl) (by kernel_rfl) (fun _ _ _ h => h) (fun w' hk => (by kernel_rfl)) HK ?_
            refine t_c (n := 4) 4 (f := 9) (args := #[.pointer (some ⟨g, 0, none⟩), .pointer (some ⟨h, 0, none⟩)]) rfl (by kernel_rfl) (by kernel_rfl) (R_call #[.pointer (some ⟨g, 0, none⟩), .pointer (some ⟨h, 0, none⟩)] Try.func9 (by kernel_rfl) (by kernel_rfl) (by kernel_rfl)) ?_
            refine (pmove g p ca h q cb xs ys _ _ (St.focus (F := [blk g [.chan (some p)] 46, chn p ca (xs.map fun n : Int => Value.int .i64 n), blk h [.chan (some q)] 46, chn q cb (ys.map fun n : Int => Value.int .i64 n)]) HS) (by omega) (by omega) (by omega)).mono ?_
            rintro e W92 ⟨rfl, H_⟩
            have hkf_ : ∀ k_, owns [blk g [.chan (some p)] 46, chn p ca (xs.map fun n : Int => Value.int .i64 n), blk h [.chan (some q)] 46, chn q cb (ys.map fun n : Int => Value.int .i64 n)] k_ → (blk g [.chan (some p)] 46).own k_ ∨ (chn p ca (xs.map fun n : Int => Value.int .i64 n)).own k_ ∨ (blk h [.chan (some q)] 46).own k_ ∨ (chn q cb (ys.map fun n : Int => Value.int .i64 n)).own k_ ∨ (blk g7 [.slice none 0 0, .int .i64 0] 30).own k_ ∨ (blk g9 [.slice none 0 0, .int .i64 0] 30).own k_ := by
              intro k_ h_; obtain ⟨e_, he_, ho_⟩ := h_; simp only [List.mem_cons, List.not_mem_nil, or_false] at he_; rcases he_ with rfl | rfl | rfl | rfl <;> first | exact (.inl ho_) | exact (.inr (.inl ho_)) | exact (.inr (.inr (.inl ho_))) | exact (.inr (.inr (.inr (.inl ho_)))) | exact (.inr (.inr (.inr (.inr (.inl ho_))))) | exact (.inr (.inr (.inr (.inr (.inr ho_)))))
            refine ⟨_, rfl, HK.trans H_.kept (fun _ h_ => .inl (hkf_ _ h_)), ?_⟩
            replace HK := HK.trans H_.kept (fun _ h_ => .inl (hkf_ _ h_))
            replace HS : St W M W92 [blk g [.chan (some p)] 46, chn p ca ((xs.drop (min xs.length (cb - ys.length))).map fun n : Int => Value.int .i64 n), blk h [.chan (some q)] 46, chn q cb ((ys ++ xs.take (min xs.length (cb - ys.length))).map fun n : Int => Value.int .i64 n), blk g87 [.slice B5 ((ys ++ xs.take (min xs.length (cb - ys.length))).length) d5, .int .i64 (cb : Int)] 30, blk g85 [.slice A5 ((xs.drop (min xs.length (cb - ys.length))).length) c5, .int .i64 (ca : Int)] 30, rde A5 (ci .i64 (xs.drop (min xs.length (cb - ys.length)))), rde B5 (ci .i64 (ys ++ xs.take (min xs.length (cb - ys.length)))), blk g9 [.slice none 0 0, .int .i64 0] 30, blk g7 [.slice none 0 0, .int .i64 0] 30, blk g5 [.int .i64 k, .int .i64 m] 34, blk g3 [.slice B ys.length d, .int .i64 (cb : Int)] 30, blk g1 [.slice A xs.length c, .int .i64 (ca : Int)] 30] := HS.join (F := [blk g [.chan (some p)] 46, chn p ca (xs.map fun n : Int => Value.int .i64 n), blk h [.chan (some q)] 46, chn q cb (ys.map fun n : Int => Value.int .i64 n)]) (G := [blk g [.chan (some p)] 46, chn p ca ((xs.drop (min xs.length (cb - ys.length))).map fun n : Int => Value.int .i64 n), blk h [.chan (some q)] 46, chn q cb ((ys ++ xs.take (min xs.length (cb - ys.length))).map fun n : Int => Value.int .i64 n)]) H_
            clear H_
            refine t_q (n := 3) 6 (.bool true) rfl (by kernel_rfl) (by kernel_rfl) (fun _ _ _ h => h) (fun w' hk => (R_beq (b := ((((min xs.length (cb - ys.length)) : Nat) : Int) == (((min xs.length (cb - ys.length)) : Nat) : Int))) (by kernel_rfl) (beq_t (by omega)))) HK ?_
            obtain ⟨W93, hrun_, H_, hk_⟩ := ex_ks (P := Try.prog) (ty := 0) (ps := "law.go:37") (af := #[{ on := 0, ground := Go.Ground.data }, { on := 4, ground := Go.Ground.chain }, { on := 0, ground := Go.Ground.phase }, { on := 1, ground := (Go.Ground.textOnly Go.Departure.lateStores) }, { on := 2, ground := (Go.Ground.textOnly Go.Departure.lateStores) }, { on := 3, ground := (Go.Ground.textOnly Go.Departure.lateStores) }, { on := 4, ground := (Go.Ground.textOnly Go.Departure.lateStoresUnsure) }, { on := 5, ground := (Go.Ground.textOnly Go.Departure.lateStores) }, { on := 6, ground := (Go.Ground.textOnly Go.Departure.lateStores) }]) (gd := none) (t := 30) (x := (Go.Operand.tmp 10)) (y := (Go.Operand.tmp 124)) (v := .agg #[.slice A5 ((xs.drop (min xs.length (cb - ys.length))).length) c5, .int .i64 (ca : Int)]) HS 9 rfl (0) [.slice A5 ((xs.drop (min xs.length (cb - ys.length))).length) c5, .int .i64 (ca : Int)] (by kernel_rfl) (by kernel_rfl) (by kernel_rfl) (by kernel_rfl) (one_ (by kernel_rfl)) (Nat.le_of_ble_eq_true rfl)
            replace HK := HK.trans hk_ (fun _ h_ => .inl (.inr (.inr (.inr (.inr (.inl (blk_own h_)))))))
            refine t_s (n := 2) 7 rfl (by kernel_rfl) (by kernel_rfl) hrun_ HK ?_
            clear hk_ hrun_
            replace HS : St W M W93 [blk g [.chan (some p)] 46, chn p ca ((xs.drop (min xs.length (cb - ys.length))).map fun n : Int => Value.int .i64 n), blk h [.chan (some q)] 46, chn q cb ((ys ++ xs.take (min xs.length (cb - ys.length))).map fun n : Int => Value.int .i64 n), blk g87 [.slice B5 ((ys ++ xs.take (min xs.length (cb - ys.length))).length) d5, .int .i64 (cb : Int)] 30, blk g85 [.slice A5 ((xs.drop (min xs.length (cb - ys.length))).length) c5, .int .i64 (ca : Int)] 30, rde A5 (ci .i64 (xs.drop (min xs.length (cb - ys.length)))), rde B5 (ci .i64 (ys ++ xs.take (min xs.length (cb - ys.length)))), blk g9 [.slice none 0 0, .int .i64 0] 30, blk g7 [.slice A5 ((xs.drop (min xs.length (cb - ys.length))).length) c5, .int .i64 (ca : Int)] 30, blk g5 [.int .i64 k, .int .i64 m] 34, blk g3 [.slice B ys.length d, .int .i64 (cb : Int)] 30, blk g1 [.slice A xs.length c, .int .i64 (ca : Int)] 30] := H_
            clear H_
            obtain ⟨W94, hrun_, H_, hk_⟩ := ex_ks (P := Try.prog) (ty := 0) (ps := "law.go:37") (af := #[{ on := 1, ground := Go.Ground.data }, { on := 7, ground := Go.Ground.chain }, { on := 0, ground := Go.Ground.phase }, { on := 1, ground := Go.Ground.phase }, { on := 2, ground := (Go.Ground.textOnly Go.Departure.lateStores) }, { on := 3, ground := (Go.Ground.textOnly Go.Departure.lateStores) }, { on := 4, ground := (Go.Ground.textOnly Go.Departure.lateStoresUnsure) }, { on := 5, ground := (Go.Ground.textOnly Go.Departure.lateStores) }, { on := 6, ground := (Go.Ground.textOnly Go.Departure.lateStores) }, { on := 7, ground := Go.Ground.phase }]) (gd := none) (t := 30) (x := (Go.Operand.tmp 11)) (y := (Go.Operand.tmp 125)) (v := .agg #[.slice B5 ((ys ++ xs.take (min xs.length (cb - ys.length))).length) d5, .int .i64 (cb : Int)]) HS 8 rfl (0) [.slice B5 ((ys ++ xs.take (min xs.length (cb - ys.length))).length) d5, .int .i64 (cb : Int)] (by kernel_rfl) (by kernel_rfl) (by kernel_rfl) (by kernel_rfl) (one_ (by kernel_rfl)) (Nat.le_of_ble_eq_true rfl)
            replace HK := HK.trans hk_ (fun _ h_ => .inl (.inr (.inr (.inr (.inr (.inr (blk_own h_)))))))
            refine t_s (n := 1) 8 rfl (by kernel_rfl) (by kernel_rfl) hrun_ HK ?_
            clear hk_ hrun_
            replace HS : St W M W94 [blk g [.chan (some p)] 46, chn p ca ((xs.drop (min xs.length (cb - ys.length))).map fun n : Int => Value.int .i64 n), blk h [.chan (some q)] 46, chn q cb ((ys ++ xs.take (min xs.length (cb - ys.length))).map fun n : Int => Value.int .i64 n), blk g87 [.slice B5 ((ys ++ xs.take (min xs.length (cb - ys.length))).length) d5, .int .i64 (cb : Int)] 30, blk g85 [.slice A5 ((xs.drop (min xs.length (cb - ys.length))).length) c5, .int .i64 (ca : Int)] 30, rde A5 (ci .i64 (xs.drop (min xs.length (cb - ys.length)))), rde B5 (ci .i64 (ys ++ xs.take (min xs.length (cb - ys.length)))), blk g9 [.slice B5 ((ys ++ xs.take (min xs.length (cb - ys.length))).length) d5, .int .i64 (cb : Int)] 30, blk g7 [.slice A5 ((xs.drop (min xs.length (cb - ys.length))).length) c5, .int .i64 (ca : Int)] 30, blk g5 [.int .i64 k, .int .i64 m] 34, blk g3 [.slice B ys.length d, .int .i64 (cb : Int)] 30, blk g1 [.slice A xs.length c, .int .i64 (ca : Int)] 30] := H_
            clear H_
            refine t_q (n := 0) 9 (.bool true) rfl (by kernel_rfl) (by kernel_rfl) (fun _ _ _ h => h) (fun w' hk => (by kernel_rfl)) HK ?_
            refine t_done (by kernel_rfl) ?_
            clear HV HK
            refine x_then ?_
            refine wp_ret ?_
            refine x_inbR ?_
            refine x_thenR ?_
            refine ret_ (.tuple #[.agg #[.slice A5 ((xs.drop (min xs.length (cb - ys.length))).length) c5, .int .i64 (ca : Int)], .agg #[.slice B5 ((ys ++ xs.take (min xs.length (cb - ys.length))).length) d5, .int .i64 (cb : Int)], .bool true]) (res3 rfl (oneRes_agg (p := ⟨g7, 0, none⟩) [.slice A5 ((xs.drop (min xs.length (cb - ys.length))).length) c5, .int .i64 (ca : Int)] (by kernel_rfl) (by kernel_rfl) (by kernel_rfl) (by kernel_rfl) (HS.cellsN (i := 9) rfl)) (oneRes_agg (p := ⟨g9, 0, none⟩) [.slice B5 ((ys ++ xs.take (min xs.length (cb - ys.length))).length) d5, .int .i64 (cb : Int)] (by kernel_rfl) (by kernel_rfl) (by kernel_rfl) (by kernel_rfl) (HS.cellsN (i := 8) rfl)) (oneRes_t (by kernel_rfl))) ?_
            replace HS : St W M W94 [blk g [.chan (some p)] 46, chn p ca ((xs.drop (min xs.length (cb - ys.length))).map fun n : Int => Value.int .i64 n), blk h [.chan (some q)] 46, chn q cb ((ys ++ xs.take (min xs.length (cb - ys.length))).map fun n : Int => Value.int .i64 n), rde A5 (ci .i64 (xs.drop (min xs.length (cb - ys.length)))), rde B5 (ci .i64 (ys ++ xs.take (min xs.length (cb - ys.length))))] := St.tail (F := [blk g87 [.slice B5 ((ys ++ xs.take (min xs.length (cb - ys.length))).length) d5, .int .i64 (cb : Int)] 30, blk g85 [.slice A5 ((xs.drop (min xs.length (cb - ys.length))).length) c5, .int .i64 (ca : Int)] 30, blk g9 [.slice B5 ((ys ++ xs.take (min xs.length (cb - ys.length))).length) d5, .int .i64 (cb : Int)] 30, blk g7 [.slice A5 ((xs.drop (min xs.length (cb - ys.length))).length) c5, .int .i64 (ca : Int)] 30, blk g5 [.int .i64 k, .int .i64 m] 34, blk g3 [.slice B ys.length d, .int .i64 (cb : Int)] 30, blk g1 [.slice A xs.length c, .int .i64 (ca : Int)] 30]) (HS.perm (perm_ [4, 5, 8, 9, 10, 11, 12, 0, 1, 2, 3, 6, 7] (by kernel_rfl) rfl))
            exact ⟨(xs.drop (min xs.length (cb - ys.length))), (ys ++ xs.take (min xs.length (cb - ys.length))), _, _, _, _, rfl, HS, by first | omega | (simp only [List.length_append, List.length_cons, List.length_nil, List.length_tail, List.length_drop, List.length_take]; omega), by first | omega | (simp only [List.length_append, List.length_cons, List.length_nil, List.length_tail, List.length_drop, List.length_take]; omega), by first | omega | (simp only [List.length_append, List.length_cons, List.length_nil, List.length_tail, List.length_drop, List.length_take]; omega), by first | omega | (simp only [List.length_append, List.length_cons, List.length_nil, List.length_tail, List.length_drop, List.length_take]; omega)⟩
          · skip
            refine ql (.bool false) (by kernel_rfl) (R_beq (b := (k == (4 : Int))) (by kernel_rfl) (beq_f (hc83))) ?_
            refine ql (.bool false) (by kernel_rfl) (by kernel_rfl) ?_
            refine wpList_nil ?_
            refine x_then ?_
            refine wp_cond_false (by kernel_rfl) ?_
            refine wp_seq ?_
            refine wp_region_lit ?_
            by_cases hc95 : k = (5 : Int)
            · skip
              refine ql (.bool true) (by kernel_rfl) (R_beq (b := (k == (5 : Int))) (by kernel_rfl) (beq_t (hc95))) ?_
              refine ql (.bool true) (by kernel_rfl) (by kernel_rfl) ?_
              refine wpList_nil ?_
              refine x_then ?_
              refine wp_cond_true (by kernel_rfl) ?_
              refine wp_seq ?_
              refine wp_region_lit ?_
              refine ql (.agg #[.slice B ys.length d, .int .i64 (cb : Int)]) (by kernel_rfl) (R_loadN (p := ⟨g3, 0, none⟩) [.slice B ys.length d, .int .i64 (cb : Int)] (by kernel_rfl) (by kernel_rfl) (by kernel_rfl) (by kernel_rfl) (two_at (HS.cell (i := 3) (j := 0) rfl rfl) (HS.cell (i := 3) (j := 1) rfl rfl))) ?_
              refine ql (.agg #[.slice A xs.length c, .int .i64 (ca : Int)]) (by kernel_rfl) (R_loadN (p := ⟨g1, 0, none⟩) [.slice A xs.length c, .int .i64 (ca : Int)] (by kernel_rfl) (by kernel_rfl) (by kernel_rfl) (by kernel_rfl) (two_at (HS.cell (i := 4) (j := 0) rfl rfl) (HS.cell (i := 4) (j := 1) rfl rfl))) ?_
              refine qc (f := 19) (args := #[.agg #[.slice B ys.length d, .int .i64 (cb : Int)], .agg #[.slice A xs.length c, .int .i64 (ca : Int)]]) (by kernel_rfl) (R_call #[.agg #[.slice B ys.length d, .int .i64 (cb : Int)], .agg #[.slice A xs.length c, .int .i64 (ca : Int)]] Try.func19 (by kernel_rfl) (by kernel_rfl) (by kernel_rfl)) ?_
              replace HS : St W M W10 [rde B (ci .i64 ys), rde A (ci .i64 xs), blk g9 [.slice none 0 0, .int .i64 0] 30, blk g7 [.slice none 0 0, .int .i64 0] 30, blk g5 [.int .i64 k, .int .i64 m] 34, blk g3 [.slice B ys.length d, .int .i64 (cb : Int)] 30, blk g1 [.slice A xs.length c, .int .i64 (ca : Int)] 30, blk g [.chan (some p)] 46, chn p ca (xs.map fun n : Int => Value.int .i64 n), blk h [.chan (some q)] 46, chn q cb (ys.map fun n : Int => Value.int .i64 n)] := HS.perm (perm_ [10, 9, 0, 1, 2, 3, 4, 5, 6, 7, 8] (by kernel_rfl) rfl)
              refine (rpmove B d ys cb A c xs ca _ _ (St.focus (F := [rde B (ci .i64 ys), rde A (ci .i64 xs)]) HS) (by omega) (by omega) (by omega) (by omega) (by omega)).mono ?_
              rintro e W96 ⟨A5, c5, B5, d5, rfl, H_, hc5, hd5⟩
              refine ⟨_, rfl, ?_⟩
              replace HS : St W M W96 [rde A5 (ci .i64 (ys.drop (min ys.length (ca - xs.length)))), rde B5 (ci .i64 (xs ++ ys.take (min ys.length (ca - xs.length)))), blk g9 [.slice none 0 0, .int .i64 0] 30, blk g7 [.slice none 0 0, .int .i64 0] 30, blk g5 [.int .i64 k, .int .i64 m] 34, blk g3 [.slice B ys.length d, .int .i64 (cb : Int)] 30, blk g1 [.slice A xs.length c, .int .i64 (ca : Int)] 30, blk g [.chan (some p)] 46, chn p ca (xs.map fun n : Int => Value.int .i64 n), blk h [.chan (some q)] 46, chn q cb (ys.map fun n : Int => Value.int .i64 n)] := HS.join (F := [rde B (ci .i64 ys), rde A (ci .i64 xs)]) (G := [rde A5 (ci .i64 (ys.drop (min ys.length (ca - xs.length)))), rde B5 (ci .i64 (xs ++ ys.take (min ys.length (ca - xs.length))))]) H_
              clear H_
              refine ql (.tuple #[.agg #[.slice A5 ((ys.drop (min ys.length (ca - xs.length))).length) c5, .int .i64 (cb : Int)], .agg #[.slice B5 ((xs ++ ys.take (min ys.length (ca - xs.length))).length) d5, .int .i64 (ca : Int)], .int .i64 (((min ys.length (ca - xs.length)) : Nat) : Int)]) (by kernel_rfl) (by kernel_rfl) ?_
              refine ql (.agg #[.slice A5 ((ys.drop (min ys.length (ca - xs.length))).length) c5, .int .i64 (cb : Int)]) (by kernel_rfl) (by kernel_rfl) ?_
              refine ql (.agg #[.slice B5 ((xs ++ ys.take (min ys.length (ca - xs.length))).length) d5, .int .i64 (ca : Int)]) (by kernel_rfl) (by kernel_rfl) ?_
              refine ql (.int .i64 (((min ys.length (ca - xs.length)) : Nat) : Int)) (by kernel_rfl) (by kernel_rfl) ?_
              refine kb HS [.slice none 0 0, .int .i64 0] 30 (fun g => .pointer (some ⟨g, 0, none⟩)) (by kernel_rfl) (by kernel_rfl) ?_
              intro g97 W98 H_
              replace HS : St W M W98 [blk g97 [.slice none 0 0, .int .i64 0] 30, rde A5 (ci .i64 (ys.drop (min ys.length (ca - xs.length)))), rde B5 (ci .i64 (xs ++ ys.take (min ys.length (ca - xs.length)))), blk g9 [.slice none 0 0, .int .i64 0] 30, blk g7 [.slice none 0 0, .int .i64 0] 30, blk g5 [.int .i64 k, .int .i64 m] 34, blk g3 [.slice B ys.length d, .int .i64 (cb : Int)] 30, blk g1 [.slice A xs.length c, .int .i64 (ca : Int)] 30, blk g [.chan (some p)] 46, chn p ca (xs.map fun n : Int => Value.int .i64 n), blk h [.chan (some q)] 46, chn q cb (ys.map fun n : Int => Value.int .i64 n)] := H_
              clear H_
              refine kb HS [.slice none 0 0, .int .i64 0] 30 (fun g => .pointer (some ⟨g, 0, none⟩)) (by kernel_rfl) (by kernel_rfl) ?_
              intro g99 W100 H_
              replace HS : St W M W100 [blk g99 [.slice none 0 0, .int .i64 0] 30, blk g97 [.slice none 0 0, .int .i64 0] 30, rde A5 (ci .i64 (ys.drop (min ys.length (ca - xs.length)))), rde B5 (ci .i64 (xs ++ ys.take (min ys.length (ca - xs.length)))), blk g9 [.slice none 0 0, .int .i64 0] 30, blk g7 [.slice none 0 0, .int .i64 0] 30, blk g5 [.int .i64 k, .int .i64 m] 34, blk g3 [.slice B ys.length d, .int .i64 (cb : Int)] 30, blk g1 [.slice A xs.length c, .int .i64 (ca : Int)] 30, blk g [.chan (some p)] 46, chn p ca (xs.map fun n : Int => Value.int .i64 n), blk h [.chan (some q)] 46, chn q cb (ys.map fun n : Int => Value.int .i64 n)] := H_
              clear H_
              refine ks (v := .agg #[.slice A5 ((ys.drop (min ys.length (ca - xs.length))).length) c5, .int .i64 (cb : Int)]) HS 1 rfl (0) [.slice A5 ((ys.drop (min ys.length (ca - xs.length))).length) c5, .int .i64 (cb : Int)] (by kernel_rfl) (by kernel_rfl) (by kernel_rfl) (by kernel_rfl) (by kernel_rfl) (one_ (by kernel_rfl)) (Nat.le_of_ble_eq_true rfl) rfl ?_
              intro W101 H_
              replace HS : St W M W101 [blk g99 [.slice none 0 0, .int .i64 0] 30, blk g97 [.slice A5 ((ys.drop (min ys.length (ca - xs.length))).length) c5, .int .i64 (cb : Int)] 30, rde A5 (ci .i64 (ys.drop (min ys.length (ca - xs.length)))), rde B5 (ci .i64 (xs ++ ys.take (min ys.length (ca - xs.length)))), blk g9 [.slice none 0 0, .int .i64 0] 30, blk g7 [.slice none 0 0, .int .i64 0] 30, blk g5 [.int .i64 k, .int .i64 m] 34, blk g3 [.slice B ys.length d, .int .i64 (cb : Int)] 30, blk g1 [.slice A xs.length c, .int .i64 (ca : Int)] 30, blk g [.chan (some p)] 46, chn p ca (xs.map fun n : Int => Value.int .i64 n), blk h [.chan (some q)] 46, chn q cb (ys.map fun n : Int => Value.int .i64 n)] := H_
              clear H_
              refine ks (v := .agg #[.slice B5 ((xs ++ ys.take (min ys.length (ca - xs.length))).length) d5, .int .i64 (ca : Int)]) HS 0 rfl (0) [.slice B5 ((xs ++ ys.take (min ys.length (ca - xs.length))).length) d5, .int .i64 (ca : Int)] (by kernel_rfl) (by kernel_rfl) (by kernel_rfl) (by kernel_rfl) (by kernel_rfl) (one_ (by kernel_rfl)) (Nat.le_of_ble_eq_true rfl) rfl ?_
              intro W102 H_
              replace HS : St W M W102 [blk g99 [.slice B5 ((xs ++ ys.take (min ys.length (ca - xs.length))).length) d5, .int .i64 (ca : Int)] 30, blk g97 [.slice A5 ((ys.drop (min ys.length (ca - xs.length))).length) c5, .int .i64 (cb : Int)] 30, rde A5 (ci .i64 (ys.drop (min ys.length (ca - xs.length)))), rde B5 (ci .i64 (xs ++ ys.take (min ys.length (ca - xs.length)))), blk g9 [.slice none 0 0, .int .i64 0] 30, blk g7 [.slice none 0 0, .int .i64 0] 30, blk g5 [.int .i64 k, .int .i64 m] 34, blk g3 [.slice B ys.length d, .int .i64 (cb : Int)] 30, blk g1 [.slice A xs.length c, .int .i64 (ca : Int)] 30, blk g [.chan (some p)] 46, chn p ca (xs.map fun n : Int => Value.int .i64 n), blk h [.chan (some q)] 46, chn q cb (ys.map fun n : Int => Value.int .i64 n)] := H_
              clear H_
              refine ql (.int .i64 (((min ys.length (ca - xs.length)) : Nat) : Int)) (by kernel_rfl) (by kernel_rfl) ?_
              refine wpList_nil ?_
              refine x_then ?_
              refine wp_seq ?_
              replace HS : St W M W102 [blk h [.chan (some q)] 46, chn q cb (ys.map fun n : Int => Value.int .i64 n), blk g [.chan (some p)] 46, chn p ca (xs.map fun n : Int => Value.int .i64 n), blk g99 [.slice B5 ((xs ++ ys.take (min ys.length (ca - xs.length))).length) d5, .int .i64 (ca : Int)] 30, blk g97 [.slice A5 ((ys.drop (min ys.length (ca - xs.length))).length) c5, .int .i64 (cb : Int)] 30, rde A5 (ci .i64 (ys.drop (min ys.length (ca - xs.length)))), rde B5 (ci .i64 (xs ++ ys.take (min ys.length (ca - xs.length)))), blk g9 [.slice none 0 0, .int .i64 0] 30, blk g7 [.slice none 0 0, .int .i64 0] 30, blk g5 [.int .i64 k, .int .i64 m] 34, blk g3 [.slice B ys.length d, .int .i64 (cb : Int)] 30, blk g1 [.slice A xs.length c, .int .i64 (ca : Int)] 30] := HS.perm (perm_ [11, 12, 9, 10, 0, 1, 2, 3, 4, 5, 6, 7, 8] (by kernel_rfl) rfl)
              refine t_start HS (fun k_ => (blk h [.chan (some q)] 46).own k_ ∨ (chn q cb (ys.map fun n : Int => Value.int .i64 n)).own k_ ∨ (blk g [.chan (some p)] 46).own k_ ∨ (chn p ca (xs.map fun n : Int => Value.int .i64 n)).own k_ ∨ (blk g7 [.slice none 0 0, .int .i64 0] 30).own k_ ∨ (blk g9 [.slice none 0 0, .int .i64 0] 30).own k_) 10 (by kernel_rfl) rfl ?_
              intro W103 H_ HD_
              clear HD_
              replace HS : St W M W103 [blk h [.chan (some q)] 46, chn q cb (ys.map fun n : Int => Value.int .i64 n), blk g [.chan (some p)] 46, chn p ca (xs.map fun n : Int => Value.int .i64 n), blk g99 [.slice B5 ((xs ++ ys.take (min ys.length (ca - xs.length))).length) d5, .int .i64 (ca : Int)] 30, blk g97 [.slice A5 ((ys.drop (min ys.length (ca - xs.length))).length) c5, .int .i64 (cb : Int)] 30, rde A5 (ci .i64 (ys.drop (min ys.length (ca - xs.length)))), rde B5 (ci .i64 (xs ++ ys.take (min ys.length (ca - xs.length)))), blk g9 [.slice none 0 0, .int .i64 0] 30, blk g7 [.slice none 0 0, .int .i64 0] 30, blk g5 [.int .i64 k, .int .i64 m] 34, blk g3 [.slice B ys.length d, .int .i64 (cb : Int)] 30, blk g1 [.slice A xs.length c, .int .i64 (ca : Int)] 30] := H_
              clear H_
              have HV := HS
              have HK := Kpt.refl (fun k_ => (blk h [.chan (some q)] 46).own k_ ∨ (chn q cb (ys.map fun n : Int => Value.int .i64 n)).own k_ ∨ (blk g [.chan (some p)] 46).own k_ ∨ (chn p ca (xs.map fun n : Int => Value.int .i64 n)).own k_ ∨ (blk g7 [.slice none 0 0, .int .i64 0] 30).own k_ ∨ (blk g9 [.slice none 0 0, .int .i64 0] 30).own k_) W103
              refine t_q (n := 9) 0 (.agg #[.slice B5 ((xs ++ ys.take (min ys.length (ca - xs.length))).length) d5, .int .i64 (ca : Int)]) rfl (by kernel_rfl) (by kernel_rfl) (fun _ _ _ h => h) (fun w' hk => (R_loadN (p := ⟨g99, 0, none⟩) [.slice B5 ((xs ++ ys.take (min ys.length (ca - xs.length))).length) d5, .int .i64 (ca : Int)] (by kernel_rfl) (by kernel_rfl) (by kernel_rfl) (by kernel_rfl) (two_at (hk.cellN (fun h_ => h_.elim (HV.sepB (a := 4) (b := 0) (by decide) rfl rfl) (fun h_ => h_.elim (HV.sepB (a := 4) (b := 1) (by decide) rfl rfl) (fun h_ => h_.elim (HV.sepB (a := 4) (b := 2) (by decide) rfl rfl) (fun h_ => h_.elim (HV.sepB (a := 4) (b := 3) (by decide) rfl rfl) (fun h_ => h_.elim (HV.sepB (a := 4) (b := 9) (by decide) rfl rfl) (HV.sepB (a := 4) (b := 8) (by decide) rfl rfl)))))) (HV.cell (i := 4) (j := 0) rfl rfl)) (hk.cellN (fun h_ => h_.elim (HV.sepB (a := 4) (b := 0) (by decide) rfl rfl) (fun h_ => h_.elim (HV.sepB (a := 4) (b := 1) (by decide) rfl rfl) (fun h_ => h_.elim (HV.sepB (a := 4) (b := 2) (by decide) rfl rfl) (fun h_ => h_.elim (HV.sepB (a := 4) (b := 3) (by decide) rfl rfl) (fun h_ => h_.elim (HV.sepB (a := 4) (b := 9) (by decide) rfl rfl) (HV.sepB (a := 4) (b := 8) (by decide) rfl rfl)))))) (HV.cell (i := 4) (j := 1) rfl rfl))))) HK ?_
              refine t_q (n := 8) 1 (.agg #[.slice A5 ((ys.drop (min ys.length (ca - xs.length))).length) c5, .int .i64 (cb : Int)]) rfl (by kernel_rfl) (by kernel_rfl) (fun _ _ _ h => h) (fun w' hk => (R_loadN (p := ⟨g97, 0, none⟩) [.slice A5 ((ys.drop (min ys.length (ca - xs.length))).length) c5, .int .i64 (cb : Int)] (by kernel_rfl) (by kernel_rfl) (by kernel_rfl) (by kernel_rfl) (two_at (hk.cellN (fun h_ => h_.elim (HV.sepB (a := 5) (b := 0) (by decide) rfl rfl) (fun h_ => h_.elim (HV.sepB (a := 5) (b := 1) (by decide) rfl rfl) (fun h_ => h_.elim (HV.sepB (a := 5) (b := 2) (by decide) rfl rfl) (fun h_ => h_.elim (HV.sepB (a := 5) (b := 3) (by decide) rfl rfl) (fun h_ => h_.elim (HV.sepB (a := 5) (b := 9) (by decide) rfl rfl) (HV.sepB (a := 5) (b := 8) (by decide) rfl rfl)))))) (HV.cell (i := 5) (j := 0) rfl rfl)) (hk.cellN (fun h_ => h_.elim (HV.sepB (a := 5) (b := 0) (by decide) rfl rfl) (fun h_ => h_.elim (HV.sepB (a := 5) (b := 1) (by decide) rfl rfl) (fun h_ => h_.elim (HV.sepB (a := 5) (b := 2) (by decide) rfl rfl) (fun h_ => h_.elim (HV.sepB (a := 5) (b := 3) (by decide) rfl rfl) (fun h_ => h_.elim (HV.sepB (a := 5) (b := 9) (by decide) rfl rfl) (HV.sepB (a := 5) (b := 8) (by decide) rfl rfl)))))) (HV.cell (i := 5) (j := 1) rfl rfl))))) HK ?_
              refine t_q (n := 7) 2 (.pointer (some ⟨h, 0, none⟩)) rfl (by kernel_rfl) (by kernel_rfl) (fun _ _ _ h => h) (fun w' hk => (by kernel_rfl)) HK ?_
              refine t_q (n := 6) 3 (.pointer (some ⟨g, 0, none⟩)) rfl (by kernel_rfl) (by kernel_rfl) (fun _ _ _ h => h) (fun w' hk => (by kernel_rfl)) HK ?_
              refine t_q (n := 5) 5 (.int .i64 (((min ys.length (ca - xs.length)) : Nat) : Int)) rfl (by kernel_rfl) (by kernel_rfl) (fun _ _ _ h => h) (fun w' hk => (by kernel_rfl)) HK ?_
              refine t_c (n := 4) 4 (f := 9) (args := #[.pointer (some ⟨h, 0, none⟩), .pointer (some ⟨g, 0, none⟩)]) rfl (by kernel_rfl) (by kernel_rfl) (R_call #[.pointer (some ⟨h, 0, none⟩), .pointer (some ⟨g, 0, none⟩)] Try.func9 (by kernel_rfl) (by kernel_rfl) (by kernel_rfl)) ?_
              refine (pmove h q cb g p ca ys xs _ _ (St.focus (F := [blk h [.chan (some q)] 46, chn q cb (ys.map fun n : Int => Value.int .i64 n), blk g [.chan (some p)] 46, chn p ca (xs.map fun n : Int => Value.int .i64 n)]) HS) (by omega) (by omega) (by omega)).mono ?_
              rintro e W104 ⟨rfl, H_⟩
              have hkf_ : ∀ k_, owns [blk h [.chan (some q)] 46, chn q cb (ys.map fun n : Int => Value.int .i64 n), blk g [.chan (some p)] 46, chn p ca (xs.map fun n : Int => Value.int .i64 n)] k_ → (blk h [.chan (some q)] 46).own k_ ∨ (chn q cb (ys.map fun n : Int => Value.int .i64 n)).own k_ ∨ (blk g [.chan (some p)] 46).own k_ ∨ (chn p ca (xs.map fun n : Int => Value.int .i64 n)).own k_ ∨ (blk g7 [.slice none 0 0, .int .i64 0] 30).own k_ ∨ (blk g9 [.slice none 0 0, .int .i64 0] 30).own k_ := by
                intro k_ h_; obtain ⟨e_, he_, ho_⟩ := h_; simp only [List.mem_cons, List.not_mem_nil, or_false] at he_; rcases he_ with rfl | rfl | rfl | rfl <;> first | exact (.inl ho_) | exact (.inr (.inl ho_)) | exact (.inr (.inr (.inl ho_))) | exact (.inr (.inr (.inr (.inl ho_)))) | exact (.inr (.inr (.inr (.inr (.inl ho_))))) | exact (.inr (.inr (.inr (.inr (.inr ho_)))))
              refine ⟨_, rfl, HK.trans H_.kept (fun _ h_ => .inl (hkf_ _ h_)), ?_⟩
              replace HK := HK.trans H_.kept (fun _ h_ => .inl (hkf_ _ h_))
              replace HS : St W M W104 [blk h [.chan (some q)] 46, chn q cb ((ys.drop (min ys.length (ca - xs.length))).map fun n : Int => Value.int .i64 n), blk g [.chan (some p)] 46, chn p ca ((xs ++ ys.take (min ys.length (ca - xs.length))).map fun n : Int => Value.int .i64 n), blk g99 [.slice B5 ((xs ++ ys.take (min ys.length (ca - xs.length))).length) d5, .int .i64 (ca : Int)] 30, blk g97 [.slice A5 ((ys.drop (min ys.length (ca - xs.length))).length) c5, .int .i64 (cb : Int)] 30, rde A5 (ci .i64 (ys.drop (min ys.length (ca - xs.length)))), rde B5 (ci .i64 (xs ++ ys.take (min ys.length (ca - xs.length)))), blk g9 [.slice none 0 0, .int .i64 0] 30, blk g7 [.slice none 0 0, .int .i64 0] 30, blk g5 [.int .i64 k, .int .i64 m] 34, blk g3 [.slice B ys.length d, .int .i64 (cb : Int)] 30, blk g1 [.slice A xs.length c, .int .i64 (ca : Int)] 30] := HS.join (F := [blk h [.chan (some q)] 46, chn q cb (ys.map fun n : Int => Value.int .i64 n), blk g [.chan (some p)] 46, chn p ca (xs.map fun n : Int => Value.int .i64 n)]) (G := [blk h [.chan (some q)] 46, chn q cb ((ys.drop (min ys.length (ca - xs.length))).map fun n : Int => Value.int .i64 n), blk g [.chan (some p)] 46, chn p ca ((xs ++ ys.take (min ys.length (ca - xs.length))).map fun n : Int => Value.int .i64 n)]) H_
              clear H_
              refine t_q (n := 3) 6 (.bool true) rfl (by kernel_rfl) (by kernel_rfl) (fun _ _ _ h => h) (fun w' hk => (R_beq (b := ((((min ys.length (ca - xs.length)) : Nat) : Int) == (((min ys.length (ca - xs.length)) : Nat) : Int))) (by kernel_rfl) (beq_t (by omega)))) HK ?_
              obtain ⟨W105, hrun_, H_, hk_⟩ := ex_ks (P := Try.prog) (ty := 0) (ps := "law.go:40") (af := #[{ on := 0, ground := Go.Ground.data }, { on := 4, ground := Go.Ground.chain }, { on := 0, ground := Go.Ground.phase }, { on := 1, ground := (Go.Ground.textOnly Go.Departure.lateStores) }, { on := 2, ground := (Go.Ground.textOnly Go.Departure.lateStores) }, { on := 3, ground := (Go.Ground.textOnly Go.Departure.lateStores) }, { on := 4, ground := (Go.Ground.textOnly Go.Departure.lateStoresUnsure) }, { on := 5, ground := (Go.Ground.textOnly Go.Departure.lateStores) }, { on := 6, ground := (Go.Ground.textOnly Go.Departure.lateStores) }]) (gd := none) (t := 30) (x := (Go.Operand.tmp 10)) (y := (Go.Operand.tmp 140)) (v := .agg #[.slice B5 ((xs ++ ys.take (min ys.length (ca - xs.length))).length) d5, .int .i64 (ca : Int)]) HS 9 rfl (0) [.slice B5 ((xs ++ ys.take (min ys.length (ca - xs.length))).length) d5, .int .i64 (ca : Int)] (by kernel_rfl) (by kernel_rfl) (by kernel_rfl) (by kernel_rfl) (one_ (by kernel_rfl)) (Nat.le_of_ble_eq_true rfl)
              replace HK := HK.trans hk_ (fun _ h_ => .inl (.inr (.inr (.inr (.inr (.inl (blk_own h_)))))))
              refine t_s (n := 2) 7 rfl (by kernel_rfl) (by kernel_rfl) hrun_ HK ?_
              clear hk_ hrun_
              replace HS : St W M W105 [blk h [.chan (some q)] 46, chn q cb ((ys.drop (min ys.length (ca - xs.length))).map fun n : Int => Value.int .i64 n), blk g [.chan (some p)] 46, chn p ca ((xs ++ ys.take (min ys.length (ca - xs.length))).map fun n : Int => Value.int .i64 n), blk g99 [.slice B5 ((xs ++ ys.take (min ys.length (ca - xs.length))).length) d5, .int .i64 (ca : Int)] 30, blk g97 [.slice A5 ((ys.drop (min ys.length (ca - xs.length))).length) c5, .int .i64 (cb : Int)] 30, rde A5 (ci .i64 (ys.drop (min ys.length (ca - xs.length)))), rde B5 (ci .i64 (xs ++ ys.take (min ys.length (ca - xs.length)))), blk g9 [.slice none 0 0, .int .i64 0] 30, blk g7 [.slice B5 ((xs ++ ys.take (min ys.length (ca - xs.length))).length) d5, .int .i64 (ca : Int)] 30, blk g5 [.int .i64 k, .int .i64 m] 34, blk g3 [.slice B ys.length d, .int .i64 (cb : Int)] 30, blk g1 [.slice A xs.length c, .int .i64 (ca : Int)] 30] := H_
              clear H_
              obtain ⟨W106, hrun_, H_, hk_⟩ := ex_ks (P := Try.prog) (ty := 0) (ps := "law.go:40") (af := #[{ on := 1, ground := Go.Ground.data }, { on := 7, ground := Go.Ground.chain }, { on := 0, ground := Go.Ground.phase }, { on := 1, ground := Go.Ground.phase }, { on := 2, ground := (Go.Ground.textOnly Go.Departure.lateStores) }, { on := 3, ground := (Go.Ground.textOnly Go.Departure.lateStores) }, { on := 4, ground := (Go.Ground.textOnly Go.Departure.lateStoresUnsure) }, { on := 5, ground := (Go.Ground.textOnly Go.Departure.lateStores) }, { on := 6, ground := (Go.Ground.textOnly Go.Departure.lateStores) }, { on := 7, ground := Go.Ground.phase }]) (gd := none) (t := 30) (x := (Go.Operand.tmp 11)) (y := (Go.Operand.tmp 141)) (v := .agg #[.slice A5 ((ys.drop (min ys.length (ca - xs.length))).length) c5, .int .i64 (cb : Int)]) HS 8 rfl (0) [.slice A5 ((ys.drop (min ys.length (ca - xs.length))).length) c5, .int .i64 (cb : Int)] (by kernel_rfl) (by kernel_rfl) (by kernel_rfl) (by kernel_rfl) (one_ (by kernel_rfl)) (Nat.le_of_ble_eq_true rfl)
              replace HK := HK.trans hk_ (fun _ h_ => .inl (.inr (.inr (.inr (.inr (.inr (blk_own h_)))))))
              refine t_s (n := 1) 8 rfl (by kernel_rfl) (by kernel_rfl) hrun_ HK ?_
              clear hk_ hrun_
              replace HS : St W M W106 [blk h [.chan (some q)] 46, chn q cb ((ys.drop (min ys.length (ca - xs.length))).map fun n : Int => Value.int .i64 n), blk g [.chan (some p)] 46, chn p ca ((xs ++ ys.take (min ys.length (ca - xs.length))).map fun n : Int => Value.int .i64 n), blk g99 [.slice B5 ((xs ++ ys.take (min ys.length (ca - xs.length))).length) d5, .int .i64 (ca : Int)] 30, blk g97 [.slice A5 ((ys.drop (min ys.length (ca - xs.length))).length) c5, .int .i64 (cb : Int)] 30, rde A5 (ci .i64 (ys.drop (min ys.length (ca - xs.length)))), rde B5 (ci .i64 (xs ++ ys.take (min ys.length (ca - xs.length)))), blk g9 [.slice A5 ((ys.drop (min ys.length (ca - xs.length))).length) c5, .int .i64 (cb : Int)] 30, blk g7 [.slice B5 ((xs ++ ys.take (min ys.length (ca - xs.length))).length) d5, .int .i64 (ca : Int)] 30, blk g5 [.int .i64 k, .int .i64 m] 34, blk g3 [.slice B ys.length d, .int .i64 (cb : Int)] 30, blk g1 [.slice A xs.length c, .int .i64 (ca : Int)] 30] := H_
              clear H_
              refine t_q (n := 0) 9 (.bool true) rfl (by kernel_rfl) (by kernel_rfl) (fun _ _ _ h => h) (fun w' hk => (by kernel_rfl)) HK ?_
              refine t_done (by kernel_rfl) ?_
              clear HV HK
              refine x_then ?_
              refine wp_ret ?_
              refine x_inbR ?_
              refine x_thenR ?_
              refine ret_ (.tuple #[.agg #[.slice B5 ((xs ++ ys.take (min ys.length (ca - xs.length))).length) d5, .int .i64 (ca : Int)], .agg #[.slice A5 ((ys.drop (min ys.length (ca - xs.length))).length) c5, .int .i64 (cb : Int)], .bool true]) (res3 rfl (oneRes_agg (p := ⟨g7, 0, none⟩) [.slice B5 ((xs ++ ys.take (min ys.length (ca - xs.length))).length) d5, .int .i64 (ca : Int)] (by kernel_rfl) (by kernel_rfl) (by kernel_rfl) (by kernel_rfl) (HS.cellsN (i := 9) rfl)) (oneRes_agg (p := ⟨g9, 0, none⟩) [.slice A5 ((ys.drop (min ys.length (ca - xs.length))).length) c5, .int .i64 (cb : Int)] (by kernel_rfl) (by kernel_rfl) (by kernel_rfl) (by kernel_rfl) (HS.cellsN (i := 8) rfl)) (oneRes_t (by kernel_rfl))) ?_
              replace HS : St W M W106 [blk g [.chan (some p)] 46, chn p ca ((xs ++ ys.take (min ys.length (ca - xs.length))).map fun n : Int => Value.int .i64 n), blk h [.chan (some q)] 46, chn q cb ((ys.drop (min ys.length (ca - xs.length))).map fun n : Int => Value.int .i64 n), rde B5 (ci .i64 (xs ++ ys.take (min ys.length (ca - xs.length)))), rde A5 (ci .i64 (ys.drop (min ys.length (ca - xs.length))))] := St.tail (F := [blk g99 [.slice B5 ((xs ++ ys.take (min ys.length (ca - xs.length))).length) d5, .int .i64 (ca : Int)] 30, blk g97 [.slice A5 ((ys.drop (min ys.length (ca - xs.length))).length) c5, .int .i64 (cb : Int)] 30, blk g9 [.slice A5 ((ys.drop (min ys.length (ca - xs.length))).length) c5, .int .i64 (cb : Int)] 30, blk g7 [.slice B5 ((xs ++ ys.take (min ys.length (ca - xs.length))).length) d5, .int .i64 (ca : Int)] 30, blk g5 [.int .i64 k, .int .i64 m] 34, blk g3 [.slice B ys.length d, .int .i64 (cb : Int)] 30, blk g1 [.slice A xs.length c, .int .i64 (ca : Int)] 30]) (HS.perm (perm_ [4, 5, 8, 9, 10, 11, 12, 2, 3, 0, 1, 7, 6] (by kernel_rfl) rfl))
              exact ⟨(xs ++ ys.take (min ys.length (ca - xs.length))), (ys.drop (min ys.length (ca - xs.length))), _, _, _, _, rfl, HS, by first | omega | (simp only [List.length_append, List.length_cons, List.length_nil, List.length_tail, List.length_drop, List.length_take]; omega), by first | omega | (simp only [List.length_append, List.length_cons, List.length_nil, List.length_tail, List.length_drop, List.length_take]; omega), by first | omega | (simp only [List.length_append, List.length_cons, List.length_nil, List.length_tail, List.length_drop, List.length_take]; omega), by first | omega | (simp only [List.length_append, List.length_cons, List.length_nil, List.length_tail, List.length_drop, List.length_take]; omega)⟩
            · skip
              refine ql (.bool false) (by kernel_rfl) (R_beq (b := (k == (5 : Int))) (by kernel_rfl) (beq_f (hc95))) ?_
              refine ql (.bool false) (by kernel_rfl) (by kernel_rfl) ?_
              refine wpList_nil ?_
              refine x_then ?_
              refine wp_cond_false (by kernel_rfl) ?_
              refine wp_skip ?_
              refine x_inb ?_
              refine x_then ?_
              refine wp_seq ?_
              refine t_start HS (fun k_ => (blk g7 [.slice none 0 0, .int .i64 0] 30).own k_ ∨ (blk g9 [.slice none 0 0, .int .i64 0] 30).own k_) 5 (by kernel_rfl) rfl ?_
              intro W107 H_ HD_
              clear HD_
              replace HS : St W M W107 [blk g9 [.slice none 0 0, .int .i64 0] 30, blk g7 [.slice none 0 0, .int .i64 0] 30, blk g5 [.int .i64 k, .int .i64 m] 34, blk g3 [.slice B ys.length d, .int .i64 (cb : Int)] 30, blk g1 [.slice A xs.length c, .int .i64 (ca : Int)] 30, blk g [.chan (some p)] 46, chn p ca (xs.map fun n : Int => Value.int .i64 n), blk h [.chan (some q)] 46, chn q cb (ys.map fun n : Int => Value.int .i64 n), rde A (ci .i64 xs), rde B (ci .i64 ys)] := H_
              clear H_
              have HV := HS
              have HK := Kpt.refl (fun k_ => (blk g7 [.slice none 0 0, .int .i64 0] 30).own k_ ∨ (blk g9 [.slice none 0 0, .int .i64 0] 30).own k_) W107
              refine t_q (n := 4) 0 (.agg #[.slice A xs.length c, .int .i64 (ca : Int)]) rfl (by kernel_rfl) (by kernel_rfl) (fun _ _ _ h => h) (fun w' hk => (R_loadN (p := ⟨g1, 0, none⟩) [.slice A xs.length c, .int .i64 (ca : Int)] (by kernel_rfl) (by kernel_rfl) (by kernel_rfl) (by kernel_rfl) (two_at (hk.cellN (fun h_ => h_.elim (HV.sepB (a := 4) (b := 1) (by decide) rfl rfl) (HV.sepB (a := 4) (b := 0) (by decide) rfl rfl)) (HV.cell (i := 4) (j := 0) rfl rfl)) (hk.cellN (fun h_ => h_.elim (HV.sepB (a := 4) (b := 1) (by decide) rfl rfl) (HV.sepB (a := 4) (b := 0) (by decide) rfl rfl)) (HV.cell (i := 4) (j := 1) rfl rfl))))) HK ?_
              refine t_q (n := 3) 1 (.agg #[.slice B ys.length d, .int .i64 (cb : Int)]) rfl (by kernel_rfl) (by kernel_rfl) (fun _ _ _ h => h) (fun w' hk => (R_loadN (p := ⟨g3, 0, none⟩) [.slice B ys.length d, .int .i64 (cb : Int)] (by kernel_rfl) (by kernel_rfl) (by kernel_rfl) (by kernel_rfl) (two_at (hk.cellN (fun h_ => h_.elim (HV.sepB (a := 3) (b := 1) (by decide) rfl rfl) (HV.sepB (a := 3) (b := 0) (by decide) rfl rfl)) (HV.cell (i := 3) (j := 0) rfl rfl)) (hk.cellN (fun h_ => h_.elim (HV.sepB (a := 3) (b := 1) (by decide) rfl rfl) (HV.sepB (a := 3) (b := 0) (by decide) rfl rfl)) (HV.cell (i := 3) (j := 1) rfl rfl))))) HK ?_
              obtain ⟨W108, hrun_, H_, hk_⟩ := ex_ks (P := Try.prog) (ty := 0) (ps := "law.go:42") (af := #[{ on := 0, ground := Go.Ground.data }, { on := 0, ground := Go.Ground.phase }, { on := 1, ground := (Go.Ground.textOnly Go.Departure.lateStores) }]) (gd := none) (t := 30) (x := (Go.Operand.tmp 10)) (y := (Go.Operand.tmp 147)) (v := .agg #[.slice A xs.length c, .int .i64 (ca : Int)]) HS 1 rfl (0) [.slice A xs.length c, .int .i64 (ca : Int)] (by kernel_rfl) (by kernel_rfl) (by kernel_rfl) (by kernel_rfl) (one_ (by kernel_rfl)) (Nat.le_of_ble_eq_true rfl)
              replace HK := HK.trans hk_ (fun _ h_ => .inl (.inl (blk_own h_)))
              refine t_s (n := 2) 2 rfl (by kernel_rfl) (by kernel_rfl) hrun_ HK ?_
              clear hk_ hrun_
              replace HS : St W M W108 [blk g9 [.slice none 0 0, .int .i64 0] 30, blk g7 [.slice A xs.length c, .int .i64 (ca : Int)] 30, blk g5 [.int .i64 k, .int .i64 m] 34, blk g3 [.slice B ys.length d, .int .i64 (cb : Int)] 30, blk g1 [.slice A xs.length c, .int .i64 (ca : Int)] 30, blk g [.chan (some p)] 46, chn p ca (xs.map fun n : Int => Value.int .i64 n), blk h [.chan (some q)] 46, chn q cb (ys.map fun n : Int => Value.int .i64 n), rde A (ci .i64 xs), rde B (ci .i64 ys)] := H_
              clear H_
              obtain ⟨W109, hrun_, H_, hk_⟩ := ex_ks (P := Try.prog) (ty := 0) (ps := "law.go:42") (af := #[{ on := 1, ground := Go.Ground.data }, { on := 2, ground := Go.Ground.chain }, { on := 0, ground := Go.Ground.phase }, { on := 1, ground := Go.Ground.phase }, { on := 2, ground := Go.Ground.phase }]) (gd := none) (t := 30) (x := (Go.Operand.tmp 11)) (y := (Go.Operand.tmp 148)) (v := .agg #[.slice B ys.length d, .int .i64 (cb : Int)]) HS 0 rfl (0) [.slice B ys.length d, .int .i64 (cb : Int)] (by kernel_rfl) (by kernel_rfl) (by kernel_rfl) (by kernel_rfl) (one_ (by kernel_rfl)) (Nat.le_of_ble_eq_true rfl)
              replace HK := HK.trans hk_ (fun _ h_ => .inl (.inr (blk_own h_)))
              refine t_s (n := 1) 3 rfl (by kernel_rfl) (by kernel_rfl) hrun_ HK ?_
              clear hk_ hrun_
              replace HS : St W M W109 [blk g9 [.slice B ys.length d, .int .i64 (cb : Int)] 30, blk g7 [.slice A xs.length c, .int .i64 (ca : Int)] 30, blk g5 [.int .i64 k, .int .i64 m] 34, blk g3 [.slice B ys.length d, .int .i64 (cb : Int)] 30, blk g1 [.slice A xs.length c, .int .i64 (ca : Int)] 30, blk g [.chan (some p)] 46, chn p ca (xs.map fun n : Int => Value.int .i64 n), blk h [.chan (some q)] 46, chn q cb (ys.map fun n : Int => Value.int .i64 n), rde A (ci .i64 xs), rde B (ci .i64 ys)] := H_
              clear H_
              refine t_q (n := 0) 4 (.bool true) rfl (by kernel_rfl) (by kernel_rfl) (fun _ _ _ h => h) (fun w' hk => (by kernel_rfl)) HK ?_
              refine t_done (by kernel_rfl) ?_
              clear HV HK
              refine x_then ?_
              refine wp_ret ?_
              refine ret_ (.tuple #[.agg #[.slice A xs.length c, .int .i64 (ca : Int)], .agg #[.slice B ys.length d, .int .i64 (cb : Int)], .bool true]) (res3 rfl (oneRes_agg (p := ⟨g7, 0, none⟩) [.slice A xs.length c, .int .i64 (ca : Int)] (by kernel_rfl) (by kernel_rfl) (by kernel_rfl) (by kernel_rfl) (HS.cellsN (i := 1) rfl)) (oneRes_agg (p := ⟨g9, 0, none⟩) [.slice B ys.length d, .int .i64 (cb : Int)] (by kernel_rfl) (by kernel_rfl) (by kernel_rfl) (by kernel_rfl) (HS.cellsN (i := 0) rfl)) (oneRes_t (by kernel_rfl))) ?_
              replace HS := HS.drop1
              replace HS := HS.drop1
              replace HS := HS.drop1
              replace HS := HS.drop1
              replace HS := HS.drop1
              exact ⟨xs, ys, _, _, _, _, rfl, HS, by first | omega | (simp only [List.length_append, List.length_cons, List.length_nil, List.length_tail, List.length_drop, List.length_take]; omega), by first | omega | (simp only [List.length_append, List.length_cons, List.length_nil, List.length_tail, List.length_drop, List.length_take]; omega), by first | omega | (simp only [List.length_append, List.length_cons, List.length_nil, List.length_tail, List.length_drop, List.length_take]; omega), by first | omega | (simp only [List.length_append, List.length_cons, List.length_nil, List.length_tail, List.length_drop, List.length_take]; omega)⟩


theorem pnew_okI (b : Int) (W : World) (h0 : 1 ≤ b) (h1 : b ≤ 65536) : Calls Try.prog 5 #[.int .i64 b] W fun e W' => ∃ g c, e = .returned (.tuple #[.pointer (some ⟨g, 0, none⟩), .int .i64 0]) ∧ St W (owns []) W' [blk g [.chan (some c)] 46, chn c b.toNat (([] : List Int).map fun n : Int => Value.int .i64 n)] := by
  have h := pnew_ok b.toNat W (by omega) (by omega)
  rwa [Int.toNat_of_nonneg (by omega : 0 ≤ b)] at h

set_option maxRecDepth 100000 in
set_option maxHeartbeats 1000000 in
theorem awake39 (W : World) : Calls Try.prog 4 #[] W fun e W' => e = .returned (.bool true) ∧ St W (owns []) W' [] := by
  have HS : St W (owns []) W [] := St.start W _
  refine calls_enter (undef :: undef :: undef :: undef :: undef :: undef :: undef :: undef :: undef :: undef :: undef :: undef :: undef :: undef :: undef :: undef :: undef :: undef :: undef :: undef :: undef :: undef :: undef :: undef :: undef :: undef :: undef :: undef :: undef :: undef :: undef :: undef :: undef :: undef :: undef :: undef :: undef :: undef :: undef :: undef :: undef :: undef :: undef :: undef :: undef :: undef :: undef :: undef :: undef :: undef :: undef :: undef :: []) Try.func4 rfl (by kernel_rfl) ?_
  refine wp_seq ?_
  refine wp_region_lit ?_
  refine ql (.bool false) (by kernel_rfl) (by kernel_rfl) ?_
  refine wpList_nil ?_
  refine x_then ?_
  refine wp_seq ?_
  refine wp_region_lit ?_
  refine qc (f := 10) (args := #[.int .i64 2]) (by kernel_rfl) (R_call #[.int .i64 2] Try.func10 (by kernel_rfl) (by kernel_rfl) (by kernel_rfl)) ?_
  refine (pnewS_ok 2 _ (by decide) (by decide)).mono ?_
  rintro e W1 ⟨g, c, rfl, H_⟩
  refine ⟨_, rfl, ?_⟩
  replace HS : St W (owns []) W1 [blk g [.chan (some c)] 58, chn c 2 (([] : List ByteArray).map fun n : ByteArray => Value.string n)] := HS.join (F := []) (G := [blk g [.chan (some c)] 58, chn c 2 (([] : List ByteArray).map fun n : ByteArray => Value.string n)]) H_
  clear H_
  refine ql (.tuple #[.pointer (some ⟨g, 0, none⟩), .int .i64 0]) (by kernel_rfl) (by kernel_rfl) ?_
  refine ql (.pointer (some ⟨g, 0, none⟩)) (by kernel_rfl) (by kernel_rfl) ?_
  refine ql (.int .i64 0) (by kernel_rfl) (by kernel_rfl) ?_
  refine ql (.pointer (some ⟨g, 0, none⟩)) (by kernel_rfl) (by kernel_rfl) ?_
  refine ql (.int .i64 0) (by kernel_rfl) (by kernel_rfl) ?_
  refine wpList_nil ?_
  refine x_then ?_
  refine wp_seq ?_
  refine wp_region_lit ?_
  refine ql (.pointer (some ⟨g, 0, none⟩)) (by kernel_rfl) (by kernel_rfl) ?_
  refine qc (f := 11) (args := #[.pointer (some ⟨g, 0, none⟩), .string (⟨#[97]⟩)]) (by kernel_rfl) (R_call #[.pointer (some ⟨g, 0, none⟩), .string (⟨#[97]⟩)] Try.func11 (by kernel_rfl) (by kernel_rfl) (by kernel_rfl)) ?_
  refine (pputS_room g c 58 2 ([] : List ByteArray) ⟨#[97]⟩ _ _ (St.focus (F := [blk g [.chan (some c)] 58, chn c 2 (([] : List ByteArray).map fun n : ByteArray => Value.string n)]) HS) (by decide)).mono ?_
  rintro e W2 ⟨rfl, H_⟩
  refine ⟨_, rfl, ?_⟩
  replace HS : St W (owns []) W2 [blk g [.chan (some c)] 58, chn c 2 (([(⟨#[97]⟩ : ByteArray)]).map fun n : ByteArray => Value.string n)] := HS.join (F := [blk g [.chan (some c)] 58, chn c 2 (([] : List ByteArray).map fun n : ByteArray => Value.string n)]) (G := [blk g [.chan (some c)] 58, chn c 2 (([(⟨#[97]⟩ : ByteArray)]).map fun n : ByteArray => Value.string n)]) H_
  clear H_
  refine ql (.pointer (some ⟨g, 0, none⟩)) (by kernel_rfl) (by kernel_rfl) ?_
  refine qc (f := 11) (args := #[.pointer (some ⟨g, 0, none⟩), .string (⟨#[98]⟩)]) (by kernel_rfl) (R_call #[.pointer (some ⟨g, 0, none⟩), .string (⟨#[98]⟩)] Try.func11 (by kernel_rfl) (by kernel_rfl) (by kernel_rfl)) ?_
  refine (pputS_room g c 58 2 [(⟨#[97]⟩ : ByteArray)] ⟨#[98]⟩ _ _ (St.focus (F := [blk g [.chan (some c)] 58, chn c 2 (([(⟨#[97]⟩ : ByteArray)]).map fun n : ByteArray => Value.string n)]) HS) (by decide)).mono ?_
  rintro e W3 ⟨rfl, H_⟩
  refine ⟨_, rfl, ?_⟩
  replace HS : St W (owns []) W3 [blk g [.chan (some c)] 58, chn c 2 (([(⟨#[97]⟩ : ByteArray), ⟨#[98]⟩]).map fun n : ByteArray => Value.string n)] := HS.join (F := [blk g [.chan (some c)] 58, chn c 2 (([(⟨#[97]⟩ : ByteArray)]).map fun n : ByteArray => Value.string n)]) (G := [blk g [.chan (some c)] 58, chn c 2 (([(⟨#[97]⟩ : ByteArray), ⟨#[98]⟩]).map fun n : ByteArray => Value.string n)]) H_
  clear H_
  refine ql (.pointer (some ⟨g, 0, none⟩)) (by kernel_rfl) (by kernel_rfl) ?_
  refine qc (f := 11) (args := #[.pointer (some ⟨g, 0, none⟩), .string (⟨#[99]⟩)]) (by kernel_rfl) (R_call #[.pointer (some ⟨g, 0, none⟩), .string (⟨#[99]⟩)] Try.func11 (by kernel_rfl) (by kernel_rfl) (by kernel_rfl)) ?_
  refine (pputS_full g c 58 2 [(⟨#[97]⟩ : ByteArray), ⟨#[98]⟩] ⟨#[99]⟩ _ _ (St.focus (F := [blk g [.chan (some c)] 58, chn c 2 (([(⟨#[97]⟩ : ByteArray), ⟨#[98]⟩]).map fun n : ByteArray => Value.string n)]) HS) (by decide)).mono ?_
  rintro e W4 ⟨rfl, H_⟩
  refine ⟨_, rfl, ?_⟩
  replace HS : St W (owns []) W4 [blk g [.chan (some c)] 58, chn c 2 (([(⟨#[97]⟩ : ByteArray), ⟨#[98]⟩]).map fun n : ByteArray => Value.string n)] := HS.join (F := [blk g [.chan (some c)] 58, chn c 2 (([(⟨#[97]⟩ : ByteArray), ⟨#[98]⟩]).map fun n : ByteArray => Value.string n)]) (G := [blk g [.chan (some c)] 58, chn c 2 (([(⟨#[97]⟩ : ByteArray), ⟨#[98]⟩]).map fun n : ByteArray => Value.string n)]) H_
  clear H_
  refine ql (.bool true) (by kernel_rfl) (by kernel_rfl) ?_
  refine ql (.bool true) (by kernel_rfl) (by kernel_rfl) ?_
  refine ql (.bool false) (by kernel_rfl) (by kernel_rfl) ?_
  refine wpList_nil ?_
  refine x_then ?_
  refine wp_seq ?_
  refine wp_region_lit ?_
  refine ql (.pointer (some ⟨g, 0, none⟩)) (by kernel_rfl) (by kernel_rfl) ?_
  refine qc (f := 12) (args := #[.pointer (some ⟨g, 0, none⟩)]) (by kernel_rfl) (R_call #[.pointer (some ⟨g, 0, none⟩)] Try.func12 (by kernel_rfl) (by kernel_rfl) (by kernel_rfl)) ?_
  refine (pgetS_some g c 58 2 [(⟨#[98]⟩ : ByteArray)] ⟨#[97]⟩ _ _ (St.focus (F := [blk g [.chan (some c)] 58, chn c 2 (([(⟨#[97]⟩ : ByteArray), ⟨#[98]⟩]).map fun n : ByteArray => Value.string n)]) HS)).mono ?_
  rintro e W5 ⟨rfl, H_⟩
  refine ⟨_, rfl, ?_⟩
  replace HS : St W (owns []) W5 [blk g [.chan (some c)] 58, chn c 2 (([(⟨#[98]⟩ : ByteArray)]).map fun n : ByteArray => Value.string n)] := HS.join (F := [blk g [.chan (some c)] 58, chn c 2 (([(⟨#[97]⟩ : ByteArray), ⟨#[98]⟩]).map fun n : ByteArray => Value.string n)]) (G := [blk g [.chan (some c)] 58, chn c 2 (([(⟨#[98]⟩ : ByteArray)]).map fun n : ByteArray => Value.string n)]) H_
  clear H_
  refine ql (.tuple #[.string (⟨#[97]⟩), .bool true]) (by kernel_rfl) (by kernel_rfl) ?_
  refine ql (.string (⟨#[97]⟩)) (by kernel_rfl) (by kernel_rfl) ?_
  refine ql (.bool true) (by kernel_rfl) (by kernel_rfl) ?_
  refine ql (.string (⟨#[97]⟩)) (by kernel_rfl) (by kernel_rfl) ?_
  refine ql (.bool true) (by kernel_rfl) (by kernel_rfl) ?_
  refine wpList_nil ?_
  refine x_then ?_
  refine wp_seq ?_
  refine wp_region_lit ?_
  refine ql (.int .i64 0) (by kernel_rfl) (by kernel_rfl) ?_
  refine ql (.bool true) (by kernel_rfl) (R_beq (b := ((0 : Int) == 0)) (by kernel_rfl) (by decide)) ?_
  refine ql (.bool true) (by kernel_rfl) (by kernel_rfl) ?_
  refine ql (.bool true) (by kernel_rfl) (by kernel_rfl) ?_
  refine ql (.bool true) (by kernel_rfl) (by kernel_rfl) ?_
  refine ql (.bool true) (by kernel_rfl) (by kernel_rfl) ?_
  refine ql (.bool true) (by kernel_rfl) (by kernel_rfl) ?_
  refine ql (.bool true) (by kernel_rfl) (by kernel_rfl) ?_
  refine ql (.bool true) (by kernel_rfl) (by kernel_rfl) ?_
  refine ql (.bool false) (by kernel_rfl) (by kernel_rfl) ?_
  refine ql (.bool true) (by kernel_rfl) (by kernel_rfl) ?_
  refine ql (.bool true) (by kernel_rfl) (by kernel_rfl) ?_
  refine ql (.bool true) (by kernel_rfl) (by kernel_rfl) ?_
  refine ql (.string (⟨#[97]⟩)) (by kernel_rfl) (by kernel_rfl) ?_
  refine ql (.bool true) (by kernel_rfl) (by kernel_rfl) ?_
  refine ql (.bool true) (by kernel_rfl) (by kernel_rfl) ?_
  refine ql (.bool true) (by kernel_rfl) (by kernel_rfl) ?_
  refine ql (.bool true) (by kernel_rfl) (by kernel_rfl) ?_
  refine ql (.bool true) (by kernel_rfl) (by kernel_rfl) ?_
  refine ql (.bool true) (by kernel_rfl) (by kernel_rfl) ?_
  refine ql (.pointer (some ⟨g, 0, none⟩)) (by kernel_rfl) (by kernel_rfl) ?_
  refine qc (f := 13) (args := #[.pointer (some ⟨g, 0, none⟩)]) (by kernel_rfl) (R_call #[.pointer (some ⟨g, 0, none⟩)] Try.func13 (by kernel_rfl) (by kernel_rfl) (by kernel_rfl)) ?_
  refine (plenS g c 2 [(⟨#[98]⟩ : ByteArray)] _ (HS.cell (i := 0) (j := 0) rfl rfl) (HS.get (i := 1) rfl) (by decide) (by decide)).mono ?_
  rintro e W6 ⟨rfl, H_⟩
  refine ⟨_, rfl, ?_⟩
  replace HS : St W (owns []) W6 [blk g [.chan (some c)] 58, chn c 2 (([(⟨#[98]⟩ : ByteArray)]).map fun n : ByteArray => Value.string n)] := HS.join (F := []) (G := []) H_
  clear H_
  refine ql (.bool true) (by kernel_rfl) (R_beq (b := ((1 : Int) == 1)) (by kernel_rfl) (by decide)) ?_
  refine ql (.bool true) (by kernel_rfl) (by kernel_rfl) ?_
  refine ql (.bool true) (by kernel_rfl) (by kernel_rfl) ?_
  refine ql (.pointer (some ⟨g, 0, none⟩)) (by kernel_rfl) (by kernel_rfl) ?_
  refine qc (f := 14) (args := #[.pointer (some ⟨g, 0, none⟩)]) (by kernel_rfl) (R_call #[.pointer (some ⟨g, 0, none⟩)] Try.func14 (by kernel_rfl) (by kernel_rfl) (by kernel_rfl)) ?_
  refine (proomS g c 2 [(⟨#[98]⟩ : ByteArray)] _ (HS.cell (i := 0) (j := 0) rfl rfl) (HS.get (i := 1) rfl) (by decide) (by decide)).mono ?_
  rintro e W7 ⟨rfl, H_⟩
  refine ⟨_, rfl, ?_⟩
  replace HS : St W (owns []) W7 [blk g [.chan (some c)] 58, chn c 2 (([(⟨#[98]⟩ : ByteArray)]).map fun n : ByteArray => Value.string n)] := HS.join (F := []) (G := []) H_
  clear H_
  refine ql (.bool true) (by kernel_rfl) (R_beq (b := ((1 : Int) == 1)) (by kernel_rfl) (by decide)) ?_
  refine ql (.bool true) (by kernel_rfl) (by kernel_rfl) ?_
  refine ql (.bool true) (by kernel_rfl) (by kernel_rfl) ?_
  refine wpList_nil ?_
  refine x_then ?_
  refine wp_ret ?_
  refine ret_ (.bool true) (by kernel_rfl) ?_
  exact ⟨rfl, HS.tail (F := [blk g [.chan (some c)] 58, chn c 2 (([(⟨#[98]⟩ : ByteArray)]).map fun n : ByteArray => Value.string n)])⟩



end Go.Proofs.Ytbjligkokogokaa.GPoolPlays
