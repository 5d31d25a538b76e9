/- Written for this claim by gp.py, a program of this session's, over the kit's print. Lean checks it. -/
import Derived.Test.YthfpdpjccnnlhaaGPathShortx0
import Derived.Test.YthfpdpjccnnlhaaGPathShorthx
import Derived.Test.YthfpdpjccnnlhaaGPathShorthspPathShorta
import Derived.Test.YthfpdpjccnnlhaaGPathShorthspPathShortb
import Derived.Test.YthfpdpjccnnlhaaGPathShorthspPathShortc
import Derived.Test.YthfpdpjccnnlhaaGPathShorthspPathShortd
import Derived.Test.YthfpdpjccnnlhaaGPathShorthspPathShorte
import Derived.WalkKit
import Derived.StillTailTactics
import Derived.Deep.LoopGhost
import Derived.KernelRfl
import Derived.Deep.OwnRows
import Derived.Laws.OwnMore
import Derived.Laws.MakeOwn
import Derived.Maps.AppendAt
import Derived.OrdersHeld
namespace Go.Proofs.Ythfpdpjccnnlhaa.GPathShort
open Go.RowKit Go.Proofs.YthfpdpjccnnlhaaW.PrintWords Go.Proofs.YthfpdpjccnnlhaaW.PrintLast Go.Proofs.YthfpdpjccnnlhaaW.PrintMore
attribute [local go_sem] max2_int min2_int max_two min_two max_three min_three max_four min_four   -- for this text's walks alone
set_option linter.unusedVariables false
set_option linter.unusedSimpArgs false

--import Derived.WalkKit
--import Derived.StillTailTactics
--import Derived.Deep.LoopGhost
--import Derived.KernelRfl
--import Derived.Deep.OwnRows
--import Derived.Laws.OwnMore
--import Derived.Laws.MakeOwn
--import Derived.Maps.AppendAt
--import Derived.OrdersHeld
attribute [local irreducible] wpStill wpList Code.wp TA

set_option maxRecDepth 100000 in
set_option maxHeartbeats 1000000 in
theorem rlonger (A Aw : Option Addr) (c cw : Nat) (arcs : List (Int × Int)) (v : Int) (ps qs0 : List Pp) (W : World) (M : Nat → Prop) (HS : St W M W [pl qs0]) (hra : RdF M W A (cf arcC arcs)) (hrw : RdF M W Aw (cp ps)) (hm : arcs.length ≤ 10) (hpm : ps.length ≤ 1000000) (hpl : ∀ p ∈ ps, p.2.length ≤ 10) (hps : ∀ p ∈ ps, ∀ x ∈ p.2, 0 ≤ x ∧ x < arcs.length) (hpq : ∀ p ∈ ps, p ∈ qs0) : Calls Try.prog 58 #[.slice A arcs.length c, .int .i64 v, .slice Aw ps.length cw] W fun e W' => ∃ (A' : Option Addr) (c' : Nat) (os qs : List Pp), e = .returned (.slice A' os.length c') ∧ St W M W' [row A' os.length c' (cp os) 28 1, pl qs] ∧ os.map (fun p : Pp => p.2) = lgr arcs v (ps.map (fun p : Pp => p.2)) ∧ os.length ≤ 10 * ps.length ∧ (∀ p ∈ qs0, p ∈ qs) ∧ (∀ p ∈ os, p ∈ qs) := by
  refine calls_enter ((.slice A arcs.length c) :: (.int .i64 v) :: (.slice Aw ps.length cw) :: undef :: undef :: undef :: undef :: undef :: undef :: undef :: undef :: undef :: undef :: undef :: undef :: undef :: undef :: undef :: undef :: undef :: undef :: undef :: undef :: undef :: undef :: undef :: undef :: undef :: undef :: undef :: undef :: undef :: undef :: undef :: undef :: undef :: undef :: undef :: undef :: undef :: undef :: undef :: undef :: undef :: undef :: undef :: undef :: undef :: undef :: undef :: undef :: undef :: undef :: undef :: undef :: undef :: undef :: undef :: undef :: undef :: undef :: undef :: undef :: undef :: undef :: undef :: undef :: undef :: undef :: undef :: undef :: []) Try.func58 rfl (by kernel_rfl) ?_
  refine wp_seq ?_
  refine wp_region_lit ?_
  refine ql (.slice none 0 0) (by kernel_rfl) (by kernel_rfl) ?_
  refine wpList_nil ?_
  refine x_then ?_
  refine wp_seq ?_
  refine wp_region_lit ?_
  refine kl HS 0 [] 28 1 (by kernel_rfl) (by kernel_rfl) rfl (by decide) ?_
  intro g1 W2 H_
  replace HS : St W M W2 [row (some ⟨g1, 0, none⟩) 0 0 (cp ([])) 28 1, pl qs0] := H_.cast_ (by kernel_rfl)
  clear H_
  refine ql (.slice (some ⟨g1, 0, none⟩) 0 0) (by kernel_rfl) (by kernel_rfl) ?_
  refine wpList_nil ?_
  refine x_then ?_
  refine wp_seq ?_
  refine wp_seq ?_
  refine wp_region_lit ?_
  refine ql (.int .i64 0) (by kernel_rfl) (by kernel_rfl) ?_
  refine wpList_nil ?_
  refine x_then ?_
  refine wp_block ?_
  refine wp_loop_ghost (fun kq a' w' => ∃ (J3 : Nat → Value) (i : Int) (Ao : Option Addr) (co : Nat) (os : List Pp) (pz : List Pp) , a' = Fr ((.slice A arcs.length c) :: (.int .i64 v) :: (.slice Aw ps.length cw) :: undef :: undef :: undef :: (.slice none 0 0) :: (.slice Ao os.length co) :: (.int .i64 i) :: ((J3 9)) :: ((J3 10)) :: ((J3 11)) :: (.slice (some ⟨g1, 0, none⟩) 0 0) :: ((J3 13)) :: ((J3 14)) :: ((J3 15)) :: ((J3 16)) :: ((J3 17)) :: ((J3 18)) :: ((J3 19)) :: ((J3 20)) :: ((J3 21)) :: ((J3 22)) :: ((J3 23)) :: ((J3 24)) :: ((J3 25)) :: ((J3 26)) :: ((J3 27)) :: ((J3 28)) :: ((J3 29)) :: ((J3 30)) :: ((J3 31)) :: ((J3 32)) :: ((J3 33)) :: ((J3 34)) :: ((J3 35)) :: ((J3 36)) :: ((J3 37)) :: ((J3 38)) :: ((J3 39)) :: ((J3 40)) :: ((J3 41)) :: ((J3 42)) :: ((J3 43)) :: ((J3 44)) :: ((J3 45)) :: ((J3 46)) :: ((J3 47)) :: ((J3 48)) :: ((J3 49)) :: ((J3 50)) :: ((J3 51)) :: ((J3 52)) :: ((J3 53)) :: ((J3 54)) :: ((J3 55)) :: ((J3 56)) :: ((J3 57)) :: ((J3 58)) :: ((J3 59)) :: ((J3 60)) :: ((J3 61)) :: ((J3 62)) :: ((J3 63)) :: ((J3 64)) :: ((J3 65)) :: ((J3 66)) :: ((J3 67)) :: ((J3 68)) :: ((J3 69)) :: undef :: []) ∧ kq = (ps.length - (i).toNat) ∧ (0 ≤ i) ∧ (i ≤ ps.length) ∧ (os.map (fun p : Pp => p.2) = lgr arcs v ((ps.take (i).toNat).map (fun p : Pp => p.2))) ∧ ((os.length : Int) ≤ 10 * i) ∧ (∀ p ∈ qs0, p ∈ pz) ∧ (∀ p ∈ os, p ∈ pz) ∧ St W M w' [row Ao os.length co (cp os) 28 1, pl pz]) (ps.length - ((0 : Int)).toNat) ⟨(fun k_ : Nat => List.getD ((.slice A arcs.length c) :: (.int .i64 v) :: (.slice Aw ps.length cw) :: undef :: undef :: undef :: (.slice none 0 0) :: (.slice (some ⟨g1, 0, none⟩) 0 0) :: (.int .i64 0) :: undef :: undef :: undef :: (.slice (some ⟨g1, 0, none⟩) 0 0) :: undef :: undef :: undef :: undef :: undef :: undef :: undef :: undef :: undef :: undef :: undef :: undef :: undef :: undef :: undef :: undef :: undef :: undef :: undef :: undef :: undef :: undef :: undef :: undef :: undef :: undef :: undef :: undef :: undef :: undef :: undef :: undef :: undef :: undef :: undef :: undef :: undef :: undef :: undef :: undef :: undef :: undef :: undef :: undef :: undef :: undef :: undef :: undef :: undef :: undef :: undef :: undef :: undef :: undef :: undef :: undef :: undef :: undef :: []) k_ undef), (0 : Int), some ⟨g1, 0, none⟩, 0, ([] : List Pp), qs0, congrArg Fr (by kernel_rfl), rfl, by omega, by omega, by rfl, by simp, fun p h => h, by simp, HS⟩ ?_
  clear HS
  intro kq4 a' W5 hrel
  obtain ⟨J3, i, Ao, co, os, pz, rfl, hk, i0, i1, hos, hol, hqs, hoq, HS⟩ := hrel
  refine wp_seq ?_
  refine wp_seq ?_
  refine wp_region_lit ?_
  refine ql (.int .i64 i) (by kernel_rfl) (by kernel_rfl) ?_
  refine ql (.slice Aw ps.length cw) (by kernel_rfl) (by kernel_rfl) ?_
  refine ql (.int .i64 (ps.length : Int)) (by kernel_rfl) (by kernel_rfl) ?_
  by_cases hc6 : i < (ps.length : Int)
  · skip
    refine ql (.bool true) (by kernel_rfl) (R_bool (p := i < (ps.length : Int)) (by kernel_rfl) (hc6)) ?_
    refine wpList_nil ?_
    refine x_then ?_
    refine wp_cond_true (by kernel_rfl) ?_
    refine wp_skip ?_
    refine x_then ?_
    refine wp_seq ?_
    refine wp_block ?_
    refine wp_seq ?_
    refine wp_region_lit ?_
    refine ql (.int .i64 v) (by kernel_rfl) (by kernel_rfl) ?_
    refine ql (.int .i64 v) (by kernel_rfl) (by kernel_rfl) ?_
    refine wpList_nil ?_
    refine x_then ?_
    refine wp_seq_cut (fun a' w' => ∃ (u7 : Nat → Value) (at_ : Int) , a' = Fr ((.slice A arcs.length c) :: (.int .i64 v) :: (.slice Aw ps.length cw) :: undef :: undef :: undef :: (.slice none 0 0) :: (.slice Ao os.length co) :: (.int .i64 i) :: (.int .i64 at_) :: ((J3 10)) :: ((J3 11)) :: (.slice (some ⟨g1, 0, none⟩) 0 0) :: (.int .i64 i) :: (.slice Aw ps.length cw) :: (.int .i64 (ps.length : Int)) :: (.bool true) :: ((J3 17)) :: ((J3 18)) :: (.int .i64 v) :: ((u7 20)) :: ((u7 21)) :: ((u7 22)) :: ((u7 23)) :: ((u7 24)) :: ((u7 25)) :: ((u7 26)) :: ((u7 27)) :: ((u7 28)) :: ((u7 29)) :: ((u7 30)) :: ((u7 31)) :: ((u7 32)) :: ((u7 33)) :: ((u7 34)) :: ((u7 35)) :: ((u7 36)) :: ((u7 37)) :: ((u7 38)) :: ((u7 39)) :: ((u7 40)) :: ((u7 41)) :: ((J3 42)) :: ((J3 43)) :: ((J3 44)) :: ((J3 45)) :: ((J3 46)) :: ((J3 47)) :: ((J3 48)) :: ((J3 49)) :: ((J3 50)) :: ((J3 51)) :: ((J3 52)) :: ((J3 53)) :: ((J3 54)) :: ((J3 55)) :: ((J3 56)) :: ((J3 57)) :: ((J3 58)) :: ((J3 59)) :: ((J3 60)) :: ((J3 61)) :: ((J3 62)) :: ((J3 63)) :: ((J3 64)) :: ((J3 65)) :: ((J3 66)) :: ((J3 67)) :: ((J3 68)) :: ((J3 69)) :: undef :: []) ∧ (at_ = en arcs v (gx ps i).2) ∧ St W M w' [row Ao os.length co (cp os) 28 1, pl pz]) ?_ ?_
    · skip
      refine wp_seq ?_
      refine wp_region_lit ?_
      refine ql (.slice Aw ps.length cw) (by kernel_rfl) (by kernel_rfl) ?_
      refine ql (.int .i64 i) (by kernel_rfl) (by kernel_rfl) ?_
      obtain ⟨ad8, rfl⟩ := Rd.isSome_ (hrw.old0 HS) (by rw [cp_len]; omega)
      refine ql (.pointer (some (ad8.add i.toNat))) (by kernel_rfl) (R_indexA1 (k := .i64) (p := ad8) (n := ps.length) (c := cw) (i := i) (by kernel_rfl) (by kernel_rfl) Try.underlying58 (by kernel_rfl) (by omega) (by omega)) ?_
      obtain ⟨Ay, cy, ly, hy⟩ : ∃ A_ c_ l_, gx ps i = ((A_, c_), l_) := ⟨_, _, _, rfl⟩
      have hym := gx_in (xs := ps) (i := i) (by omega) (by omega)
      rw [hy] at hym
      have hl10 : ly.length ≤ 10 := hpl _ hym
      have hlr : ∀ x ∈ ly, 0 ≤ x ∧ x < arcs.length := hps _ hym
      refine ql (.slice Ay ly.length cy) (by kernel_rfl) (R_load (p := ad8.add i.toNat) (by kernel_rfl) (by kernel_rfl) (by kernel_rfl) ((hrw.old0 HS).at_ (cp_at (by omega) (by omega) hy))) ?_
      refine ql (.int .i64 (ly.length : Int)) (by kernel_rfl) (by kernel_rfl) ?_
      by_cases hc9 : (ly.length : Int) > (0 : Int)
      · skip
        refine ql (.bool true) (by kernel_rfl) (R_bool (p := (ly.length : Int) > (0 : Int)) (by kernel_rfl) (hc9)) ?_
        refine wpList_nil ?_
        refine x_then ?_
        refine wp_cond_true (by kernel_rfl) ?_
        have hlz := hlr _ (rdI_in (xs := ly) (i := (ly.length : Int) - 1) (by omega) (by omega))
        refine rg_still HS 16 (by kernel_rfl) (by kernel_rfl) ?_
        intro W10 H_ HK_
        simp only [List.take_succ_cons, List.take_zero, List.drop_succ_cons, List.drop_zero]
        replace HS : St W M W10 [row Ao os.length co (cp os) 28 1, pl pz] := H_
        clear H_
        clear HK_
        refine qs (.slice A arcs.length c) (by kernel_rfl) (by kernel_rfl) ?_
        refine qs (.slice (some ad8) ps.length cw) (by kernel_rfl) (by kernel_rfl) ?_
        refine qs (.int .i64 i) (by kernel_rfl) (by kernel_rfl) ?_
        refine qs (.pointer (some (ad8.add i.toNat))) (by kernel_rfl) (R_indexA1 (k := .i64) (p := ad8) (n := ps.length) (c := cw) (i := i) (by kernel_rfl) (by kernel_rfl) Try.underlying58 (by kernel_rfl) (by omega) (by omega)) ?_
        refine qs (.slice Ay ly.length cy) (by kernel_rfl) (R_load (p := ad8.add i.toNat) (by kernel_rfl) (by kernel_rfl) (by kernel_rfl) ((hrw.old0 HS).at_ (cp_at (by omega) (by omega) hy))) ?_
        refine qs (.slice (some ad8) ps.length cw) (by kernel_rfl) (by kernel_rfl) ?_
        refine qs (.int .i64 i) (by kernel_rfl) (by kernel_rfl) ?_
        refine qs (.pointer (some (ad8.add i.toNat))) (by kernel_rfl) (R_indexA1 (k := .i64) (p := ad8) (n := ps.length) (c := cw) (i := i) (by kernel_rfl) (by kernel_rfl) Try.underlying58 (by kernel_rfl) (by omega) (by omega)) ?_
        refine qs (.slice Ay ly.length cy) (by kernel_rfl) (R_load (p := ad8.add i.toNat) (by kernel_rfl) (by kernel_rfl) (by kernel_rfl) ((hrw.old0 HS).at_ (cp_at (by omega) (by omega) hy))) ?_
        refine qs (.int .i64 (ly.length : Int)) (by kernel_rfl) (by kernel_rfl) ?_
        refine qs (.int .i64 ((ly.length : Int) - 1)) (by kernel_rfl) (R_int (by kernel_rfl) (w64 (by omega))) ?_
        obtain ⟨ad11, rfl⟩ := Rd.isSome_ (pl_rd (HS.get (i := 1) rfl) (hqs _ (hpq _ hym))) (by rw [ci_len]; omega)
        refine qs (.pointer (some (ad11.add ((ly.length : Int) - 1).toNat))) (by kernel_rfl) (R_indexA1 (k := .i64) (p := ad11) (n := ly.length) (c := cy) (i := (ly.length : Int) - 1) (by kernel_rfl) (by kernel_rfl) Try.underlying28 (by kernel_rfl) (by omega) (by omega)) ?_
        refine qs (.int .i64 (rdI ly ((ly.length : Int) - 1))) (by kernel_rfl) (R_load (p := ad11.add ((ly.length : Int) - 1).toNat) (by kernel_rfl) (by kernel_rfl) (by kernel_rfl) ((pl_rd (HS.get (i := 1) rfl) (hqs _ (hpq _ hym))).at_ (ci_rd (i := (ly.length : Int) - 1) (by omega) (by omega)))) ?_
        obtain ⟨ad12, rfl⟩ := Rd.isSome_ (hra.old0 HS) (by rw [cf_len (z := 2) (fun _ => rfl)]; omega)
        refine qs (.pointer (some (ad12.add ((rdI ly ((ly.length : Int) - 1)).toNat * 2)))) (by kernel_rfl) (R_indexA (k := .i64) (p := ad12) (n := arcs.length) (c := c) (i := rdI ly ((ly.length : Int) - 1)) (by kernel_rfl) (by kernel_rfl) Try.underlying22 (by kernel_rfl) (by omega) (by omega)) ?_
        refine qs (.pointer (some ((ad12.add ((rdI ly ((ly.length : Int) - 1)).toNat * 2)).add 1))) (by kernel_rfl) (by kernel_rfl) ?_
        refine qs (.int .i64 ((gx arcs (rdI ly ((ly.length : Int) - 1))).2)) (by kernel_rfl) (R_load (p := (ad12.add ((rdI ly ((ly.length : Int) - 1)).toNat * 2)).add 1) (by kernel_rfl) (by kernel_rfl) (by kernel_rfl) (Rd.elem1 (k := 1) (f := arcC) (fun _ => rfl) (hra.old0 HS) (gx_eq (by omega) (by omega)) rfl)) ?_
        refine wpStill_nil ?_
        refine ql (.int .i64 ((gx arcs (rdI ly ((ly.length : Int) - 1))).2)) (by kernel_rfl) (by kernel_rfl) ?_
        refine wpList_nil ?_
        refine x_then ?_
        exact ⟨(fun k_ : Nat => List.getD ((.slice (some ad12) arcs.length c) :: (.int .i64 v) :: (.slice (some ad8) ps.length cw) :: undef :: undef :: undef :: (.slice none 0 0) :: (.slice Ao os.length co) :: (.int .i64 i) :: (.int .i64 ((gx arcs (rdI ly ((ly.length : Int) - 1))).2)) :: ((J3 10)) :: ((J3 11)) :: (.slice (some ⟨g1, 0, none⟩) 0 0) :: (.int .i64 i) :: (.slice (some ad8) ps.length cw) :: (.int .i64 (ps.length : Int)) :: (.bool true) :: ((J3 17)) :: ((J3 18)) :: (.int .i64 v) :: (.slice (some ad8) ps.length cw) :: (.int .i64 i) :: (.pointer (some (ad8.add i.toNat))) :: (.slice (some ad11) ly.length cy) :: (.int .i64 (ly.length : Int)) :: (.bool true) :: (.slice (some ad12) arcs.length c) :: (.slice (some ad8) ps.length cw) :: (.int .i64 i) :: (.pointer (some (ad8.add i.toNat))) :: (.slice (some ad11) ly.length cy) :: (.slice (some ad8) ps.length cw) :: (.int .i64 i) :: (.pointer (some (ad8.add i.toNat))) :: (.slice (some ad11) ly.length cy) :: (.int .i64 (ly.length : Int)) :: (.int .i64 ((ly.length : Int) - 1)) :: (.pointer (some (ad11.add ((ly.length : Int) - 1).toNat))) :: (.int .i64 (rdI ly ((ly.length : Int) - 1))) :: (.pointer (some (ad12.add ((rdI ly ((ly.length : Int) - 1)).toNat * 2)))) :: (.pointer (some ((ad12.add ((rdI ly ((ly.length : Int) - 1)).toNat * 2)).add 1))) :: (.int .i64 ((gx arcs (rdI ly ((ly.length : Int) - 1))).2)) :: ((J3 42)) :: ((J3 43)) :: ((J3 44)) :: ((J3 45)) :: ((J3 46)) :: ((J3 47)) :: ((J3 48)) :: ((J3 49)) :: ((J3 50)) :: ((J3 51)) :: ((J3 52)) :: ((J3 53)) :: ((J3 54)) :: ((J3 55)) :: ((J3 56)) :: ((J3 57)) :: ((J3 58)) :: ((J3 59)) :: ((J3 60)) :: ((J3 61)) :: ((J3 62)) :: ((J3 63)) :: ((J3 64)) :: ((J3 65)) :: ((J3 66)) :: ((J3 67)) :: ((J3 68)) :: ((J3 69)) :: undef :: []) k_ undef), (gx arcs (rdI ly ((ly.length : Int) - 1))).2, congrArg Fr (by kernel_rfl), by rw [hy]; show _ = en arcs v ly; unfold en; rw [if_neg (by omega)], HS⟩
      · skip
        refine ql (.bool false) (by kernel_rfl) (R_nbool (p := (ly.length : Int) > (0 : Int)) (by kernel_rfl) (hc9)) ?_
        refine wpList_nil ?_
        refine x_then ?_
        refine wp_cond_false (by kernel_rfl) ?_
        refine wp_skip ?_
        refine x_then ?_
        exact ⟨(fun k_ : Nat => List.getD ((.slice A arcs.length c) :: (.int .i64 v) :: (.slice (some ad8) ps.length cw) :: undef :: undef :: undef :: (.slice none 0 0) :: (.slice Ao os.length co) :: (.int .i64 i) :: (.int .i64 v) :: ((J3 10)) :: ((J3 11)) :: (.slice (some ⟨g1, 0, none⟩) 0 0) :: (.int .i64 i) :: (.slice (some ad8) ps.length cw) :: (.int .i64 (ps.length : Int)) :: (.bool true) :: ((J3 17)) :: ((J3 18)) :: (.int .i64 v) :: (.slice (some ad8) ps.length cw) :: (.int .i64 i) :: (.pointer (some (ad8.add i.toNat))) :: (.slice Ay ly.length cy) :: (.int .i64 (ly.length : Int)) :: (.bool false) :: ((J3 26)) :: ((J3 27)) :: ((J3 28)) :: ((J3 29)) :: ((J3 30)) :: ((J3 31)) :: ((J3 32)) :: ((J3 33)) :: ((J3 34)) :: ((J3 35)) :: ((J3 36)) :: ((J3 37)) :: ((J3 38)) :: ((J3 39)) :: ((J3 40)) :: ((J3 41)) :: ((J3 42)) :: ((J3 43)) :: ((J3 44)) :: ((J3 45)) :: ((J3 46)) :: ((J3 47)) :: ((J3 48)) :: ((J3 49)) :: ((J3 50)) :: ((J3 51)) :: ((J3 52)) :: ((J3 53)) :: ((J3 54)) :: ((J3 55)) :: ((J3 56)) :: ((J3 57)) :: ((J3 58)) :: ((J3 59)) :: ((J3 60)) :: ((J3 61)) :: ((J3 62)) :: ((J3 63)) :: ((J3 64)) :: ((J3 65)) :: ((J3 66)) :: ((J3 67)) :: ((J3 68)) :: ((J3 69)) :: undef :: []) k_ undef), v, congrArg Fr (by kernel_rfl), by rw [hy]; show _ = en arcs v ly; unfold en; rw [if_pos (by omega)], HS⟩
    · clear HS
      rintro a' W13 ⟨u7, at_, rfl, hat, HS⟩
      obtain ⟨Ay, cy, ly, hy⟩ : ∃ A_ c_ l_, gx ps i = ((A_, c_), l_) := ⟨_, _, _, rfl⟩
      have hym := gx_in (xs := ps) (i := i) (by omega) (by omega)
      rw [hy] at hym
      have hl10 : ly.length ≤ 10 := hpl _ hym
      have hlr : ∀ x ∈ ly, 0 ≤ x ∧ x < arcs.length := hps _ hym
      rw [hy] at hat
      refine wp_seq ?_
      refine wp_region_lit ?_
      refine ql (.int .i64 0) (by kernel_rfl) (by kernel_rfl) ?_
      refine wpList_nil ?_
      refine x_then ?_
      refine wp_block ?_
      refine wp_loop_ghost (fun kq a' w' => ∃ (J14 : Nat → Value) (k : Int) (Ao2 : Option Addr) (co2 : Nat) (os2 : List Pp) (pz2 : List Pp) , a' = Fr ((.slice A arcs.length c) :: (.int .i64 v) :: (.slice Aw ps.length cw) :: undef :: undef :: undef :: (.slice none 0 0) :: (.slice Ao2 os2.length co2) :: (.int .i64 i) :: (.int .i64 at_) :: (.int .i64 k) :: ((J14 11)) :: (.slice (some ⟨g1, 0, none⟩) 0 0) :: (.int .i64 i) :: (.slice Aw ps.length cw) :: (.int .i64 (ps.length : Int)) :: (.bool true) :: ((J3 17)) :: ((J3 18)) :: (.int .i64 v) :: ((u7 20)) :: ((u7 21)) :: ((u7 22)) :: ((u7 23)) :: ((u7 24)) :: ((u7 25)) :: ((u7 26)) :: ((u7 27)) :: ((u7 28)) :: ((u7 29)) :: ((u7 30)) :: ((u7 31)) :: ((u7 32)) :: ((u7 33)) :: ((u7 34)) :: ((u7 35)) :: ((u7 36)) :: ((u7 37)) :: ((u7 38)) :: ((u7 39)) :: ((u7 40)) :: ((u7 41)) :: ((J14 42)) :: ((J14 43)) :: ((J14 44)) :: ((J14 45)) :: ((J14 46)) :: ((J14 47)) :: ((J14 48)) :: ((J14 49)) :: ((J14 50)) :: ((J14 51)) :: ((J14 52)) :: ((J14 53)) :: ((J14 54)) :: ((J14 55)) :: ((J14 56)) :: ((J14 57)) :: ((J14 58)) :: ((J14 59)) :: ((J14 60)) :: ((J14 61)) :: ((J14 62)) :: ((J14 63)) :: ((J14 64)) :: ((J14 65)) :: ((J14 66)) :: ((J14 67)) :: ((J14 68)) :: ((J14 69)) :: undef :: []) ∧ kq = (arcs.length - (k).toNat) ∧ (0 ≤ k) ∧ (k ≤ arcs.length) ∧ (os2.map (fun p : Pp => p.2) = lgr arcs v ((ps.take (i).toNat).map (fun p : Pp => p.2)) ++ (idxs ((keys false arcs).take (k).toNat) at_).map (fun k => ly ++ [k])) ∧ ((os2.length : Int) ≤ 10 * i + k) ∧ (∀ p ∈ qs0, p ∈ pz2) ∧ (∀ p ∈ os2, p ∈ pz2) ∧ St W M w' [row Ao2 os2.length co2 (cp os2) 28 1, pl pz2]) (arcs.length - ((0 : Int)).toNat) ⟨(fun k_ : Nat => List.getD ((.slice A arcs.length c) :: (.int .i64 v) :: (.slice Aw ps.length cw) :: undef :: undef :: undef :: (.slice none 0 0) :: (.slice Ao os.length co) :: (.int .i64 i) :: (.int .i64 at_) :: (.int .i64 0) :: ((J3 11)) :: (.slice (some ⟨g1, 0, none⟩) 0 0) :: (.int .i64 i) :: (.slice Aw ps.length cw) :: (.int .i64 (ps.length : Int)) :: (.bool true) :: ((J3 17)) :: ((J3 18)) :: (.int .i64 v) :: ((u7 20)) :: ((u7 21)) :: ((u7 22)) :: ((u7 23)) :: ((u7 24)) :: ((u7 25)) :: ((u7 26)) :: ((u7 27)) :: ((u7 28)) :: ((u7 29)) :: ((u7 30)) :: ((u7 31)) :: ((u7 32)) :: ((u7 33)) :: ((u7 34)) :: ((u7 35)) :: ((u7 36)) :: ((u7 37)) :: ((u7 38)) :: ((u7 39)) :: ((u7 40)) :: ((u7 41)) :: ((J3 42)) :: ((J3 43)) :: ((J3 44)) :: ((J3 45)) :: ((J3 46)) :: ((J3 47)) :: ((J3 48)) :: ((J3 49)) :: ((J3 50)) :: ((J3 51)) :: ((J3 52)) :: ((J3 53)) :: ((J3 54)) :: ((J3 55)) :: ((J3 56)) :: ((J3 57)) :: ((J3 58)) :: ((J3 59)) :: ((J3 60)) :: ((J3 61)) :: ((J3 62)) :: ((J3 63)) :: ((J3 64)) :: ((J3 65)) :: ((J3 66)) :: ((J3 67)) :: ((J3 68)) :: ((J3 69)) :: undef :: []) k_ undef), (0 : Int), Ao, co, os, pz, congrArg Fr (by kernel_rfl), rfl, by omega, by omega, by rw [hos, Int.toNat_zero, List.take_zero]; unfold idxs; simp, by omega, hqs, hoq, HS⟩ ?_
      clear HS
      intro kq15 a' W16 hrel
      obtain ⟨J14, k, Ao2, co2, os2, pz2, rfl, hk, k0, k1, hos2, hol2, hqs2, hoq2, HS⟩ := hrel
      refine wp_seq ?_
      refine wp_seq ?_
      refine wp_region_lit ?_
      refine ql (.int .i64 k) (by kernel_rfl) (by kernel_rfl) ?_
      refine ql (.slice A arcs.length c) (by kernel_rfl) (by kernel_rfl) ?_
      refine ql (.int .i64 (arcs.length : Int)) (by kernel_rfl) (by kernel_rfl) ?_
      by_cases hc17 : k < (arcs.length : Int)
      · skip
        refine ql (.bool true) (by kernel_rfl) (R_bool (p := k < (arcs.length : Int)) (by kernel_rfl) (hc17)) ?_
        refine wpList_nil ?_
        refine x_then ?_
        refine wp_cond_true (by kernel_rfl) ?_
        refine wp_skip ?_
        refine x_then ?_
        refine wp_seq ?_
        refine wp_block ?_
        refine wp_seq ?_
        refine wp_region_lit ?_
        refine ql (.slice A arcs.length c) (by kernel_rfl) (by kernel_rfl) ?_
        refine ql (.int .i64 k) (by kernel_rfl) (by kernel_rfl) ?_
        obtain ⟨ad18, rfl⟩ := Rd.isSome_ (hra.old0 HS) (by rw [cf_len (z := 2) (fun _ => rfl)]; omega)
        refine ql (.pointer (some (ad18.add (k.toNat * 2)))) (by kernel_rfl) (R_indexA (k := .i64) (p := ad18) (n := arcs.length) (c := c) (i := k) (by kernel_rfl) (by kernel_rfl) Try.underlying22 (by kernel_rfl) (by omega) (by omega)) ?_
        refine ql (.pointer (some (ad18.add (k.toNat * 2)))) (by kernel_rfl) (by kernel_rfl) ?_
        refine ql (.int .i64 ((gx arcs k).1)) (by kernel_rfl) (R_load (p := ad18.add (k.toNat * 2)) (by kernel_rfl) (by kernel_rfl) (by kernel_rfl) (Rd.elem0 (f := arcC) (fun _ => rfl) (hra.old0 HS) (gx_eq (by omega) (by omega)) rfl)) ?_
        refine ql (.int .i64 at_) (by kernel_rfl) (by kernel_rfl) ?_
        by_cases hc19 : ((gx arcs k).1) = at_
        · skip
          refine ql (.bool true) (by kernel_rfl) (R_beq (b := ((gx arcs k).1 == at_)) (by kernel_rfl) (beq_t (hc19))) ?_
          refine wpList_nil ?_
          refine x_then ?_
          refine wp_cond_true (by kernel_rfl) ?_
          refine wp_seq ?_
          refine wp_region_lit ?_
          refine kl HS 0 [] 3 1 (by kernel_rfl) (by kernel_rfl) rfl (by decide) ?_
          intro g20 W21 H_
          replace HS : St W M W21 [row (some ⟨g20, 0, none⟩) 0 0 (ci .i64 ([])) 3 1, row Ao2 os2.length co2 (cp os2) 28 1, pl pz2] := H_.cast_ (by kernel_rfl)
          clear H_
          refine ql (.slice (some ⟨g20, 0, none⟩) 0 0) (by kernel_rfl) (by kernel_rfl) ?_
          refine wpList_nil ?_
          refine x_then ?_
          refine wp_seq ?_
          refine wp_region_lit ?_
          refine ql (.slice (some ⟨g20, 0, none⟩) 0 0) (by kernel_rfl) (by kernel_rfl) ?_
          refine ql (.slice Aw ps.length cw) (by kernel_rfl) (by kernel_rfl) ?_
          refine ql (.int .i64 i) (by kernel_rfl) (by kernel_rfl) ?_
          obtain ⟨ad22, rfl⟩ := Rd.isSome_ (hrw.old0 HS) (by rw [cp_len]; omega)
          refine ql (.pointer (some (ad22.add i.toNat))) (by kernel_rfl) (R_indexA1 (k := .i64) (p := ad22) (n := ps.length) (c := cw) (i := i) (by kernel_rfl) (by kernel_rfl) Try.underlying58 (by kernel_rfl) (by omega) (by omega)) ?_
          refine ql (.slice Ay ly.length cy) (by kernel_rfl) (R_load (p := ad22.add i.toNat) (by kernel_rfl) (by kernel_rfl) (by kernel_rfl) ((hrw.old0 HS).at_ (cp_at (by omega) (by omega) hy))) ?_
          obtain ⟨xs26, xs26_⟩ : ∃ z_ : List Int, z_ = ([]) ++ ly := ⟨_, rfl⟩
          have xs26l : xs26.length = 0 + ly.length := by rw [xs26_, List.length_append] <;> (try simp only [List.length_cons, List.length_nil]) <;> omega
          refine ka1 HS 0 rfl (Src.of_rd' (n := ly.length) (c := cy) (z := 1) (pl_rd (HS.get (i := 2) rfl) (hqs2 _ (hpq _ hym))) (by rw [ci_len]; omega) (by decide) ci_one) [.int .i64 0] 8 xs26.length (ci .i64 xs26) (by omega) (by rw [xs26_, ci_app]) (by kernel_rfl) (by kernel_rfl) (by kernel_rfl) Try.underlying28 (by kernel_rfl) (by kernel_rfl) (by kernel_rfl) (by kernel_rfl) (by decide) (by omega) (by omega) ?_
          intro A23 c24 W25 H_
          replace HS : St W M W25 [row A23 xs26.length c24 (ci .i64 xs26) 3 1, row Ao2 os2.length co2 (cp os2) 28 1, pl pz2] := H_
          clear H_
          refine ql (.slice A23 xs26.length c24) (by kernel_rfl) (by kernel_rfl) ?_
          refine wpList_nil ?_
          refine x_then ?_
          refine wp_seq ?_
          refine wp_region_lit ?_
          refine ql (.slice A23 xs26.length c24) (by kernel_rfl) (by kernel_rfl) ?_
          refine ql (.int .i64 k) (by kernel_rfl) (by kernel_rfl) ?_
          refine kl HS 1 [.int .i64 k] 3 1 (by kernel_rfl) (by kernel_rfl) rfl (by decide) ?_
          intro g27 W28 H_
          replace HS : St W M W28 [row (some ⟨g27, 0, none⟩) 1 1 (ci .i64 ([k])) 3 1, row A23 xs26.length c24 (ci .i64 xs26) 3 1, row Ao2 os2.length co2 (cp os2) 28 1, pl pz2] := H_.cast_ (by kernel_rfl)
          clear H_
          obtain ⟨xs32, xs32_⟩ : ∃ z_ : List Int, z_ = xs26 ++ ([k]) := ⟨_, rfl⟩
          have xs32l : xs32.length = xs26.length + 1 := by rw [xs32_, List.length_append] <;> (try simp only [List.length_cons, List.length_nil]) <;> omega
          refine ka1 HS 1 rfl (Src.of_row HS (i := 0) rfl ci_one) [.int .i64 0] 8 xs32.length (ci .i64 xs32) (by omega) (by rw [xs32_, ci_app]) (by kernel_rfl) (by kernel_rfl) (by kernel_rfl) Try.underlying28 (by kernel_rfl) (by kernel_rfl) (by kernel_rfl) (by kernel_rfl) (by decide) (by omega) (by omega) ?_
          intro A29 c30 W31 H_
          replace HS : St W M W31 [row (some ⟨g27, 0, none⟩) 1 1 (ci .i64 ([k])) 3 1, row A29 xs32.length c30 (ci .i64 xs32) 3 1, row Ao2 os2.length co2 (cp os2) 28 1, pl pz2] := H_
          clear H_
          refine ql (.slice A29 xs32.length c30) (by kernel_rfl) (by kernel_rfl) ?_
          refine wpList_nil ?_
          refine x_then ?_
          refine wp_region_lit ?_
          refine ql (.slice Ao2 os2.length co2) (by kernel_rfl) (by kernel_rfl) ?_
          refine ql (.slice A29 xs32.length c30) (by kernel_rfl) (by kernel_rfl) ?_
          refine kl HS 1 [.slice A29 xs32.length c30] 28 1 (by kernel_rfl) (by kernel_rfl) rfl (by decide) ?_
          intro g33 W34 H_
          replace HS : St W M W34 [row (some ⟨g33, 0, none⟩) 1 1 (cp ([((A29, c30), xs32)])) 28 1, row (some ⟨g27, 0, none⟩) 1 1 (ci .i64 ([k])) 3 1, row A29 xs32.length c30 (ci .i64 xs32) 3 1, row Ao2 os2.length co2 (cp os2) 28 1, pl pz2] := H_.cast_ (by kernel_rfl)
          clear H_
          obtain ⟨xs38, xs38_⟩ : ∃ z_ : List Pp, z_ = os2 ++ ([((A29, c30), xs32)]) := ⟨_, rfl⟩
          have xs38l : xs38.length = os2.length + 1 := by rw [xs38_, List.length_append] <;> (try simp only [List.length_cons, List.length_nil]) <;> omega
          refine ka1 HS 3 rfl (Src.of_row HS (i := 0) rfl cp_one) [.slice none 0 0] 24 xs38.length (cp xs38) (by omega) (by rw [xs38_, cp_app]) (by kernel_rfl) (by kernel_rfl) (by kernel_rfl) Try.underlying58 (by kernel_rfl) (by kernel_rfl) (by kernel_rfl) (by kernel_rfl) (by decide) (by omega) (by omega) ?_
          intro A35 c36 W37 H_
          replace HS : St W M W37 [row (some ⟨g33, 0, none⟩) 1 1 (cp ([((A29, c30), xs32)])) 28 1, row (some ⟨g27, 0, none⟩) 1 1 (ci .i64 ([k])) 3 1, row A29 xs32.length c30 (ci .i64 xs32) 3 1, row A35 xs38.length c36 (cp xs38) 28 1, pl pz2] := H_
          clear H_
          refine ql (.slice A35 xs38.length c36) (by kernel_rfl) (by kernel_rfl) ?_
          refine wpList_nil ?_
          refine x_inb ?_
          refine x_then ?_
          refine wp_region_lit ?_
          refine ql (.int .i64 k) (by kernel_rfl) (by kernel_rfl) ?_
          refine ql (.int .i64 (k + 1)) (by kernel_rfl) (R_int (by kernel_rfl) (w64 (by omega))) ?_
          refine ql (.int .i64 (k + 1)) (by kernel_rfl) (by kernel_rfl) ?_
          refine wpList_nil ?_
          have hst := lg1_step (arcs := arcs) (k := k) (u := at_) (w := ly) k0 (by omega)
          have hwe : xs32 = ly ++ [k] := by rw [xs32_, xs26_]; simp
          replace HS : St W M W37 [row A29 xs32.length c30 (ci .i64 xs32) 3 1, pl pz2, row A35 xs38.length c36 (cp xs38) 28 1] := St.tail (F := [row (some ⟨g33, 0, none⟩) 1 1 (cp ([((A29, c30), xs32)])) 28 1, row (some ⟨g27, 0, none⟩) 1 1 (ci .i64 ([k])) 3 1]) (HS.perm (perm_ [0, 1, 2, 4, 3] (by kernel_rfl) rfl))
          replace HS : St W M W37 [pl (((A29, c30), xs32) :: pz2), row A35 xs38.length c36 (cp xs38) 28 1] := St.pool HS
          replace HS : St W M W37 [row A35 xs38.length c36 (cp xs38) 28 1, pl (((A29, c30), xs32) :: pz2)] := HS.perm (perm_ [1, 0] (by kernel_rfl) rfl)
          rw [if_pos hc19] at hst
          refine x_then ?_
          exact ⟨arcs.length - (k + 1).toNat, by omega, (fun k_ : Nat => List.getD ((.slice (some ad18) arcs.length c) :: (.int .i64 v) :: (.slice (some ad22) ps.length cw) :: undef :: undef :: undef :: (.slice none 0 0) :: (.slice A35 xs38.length c36) :: (.int .i64 i) :: (.int .i64 at_) :: (.int .i64 (k + 1)) :: (.slice A29 xs32.length c30) :: (.slice (some ⟨g1, 0, none⟩) 0 0) :: (.int .i64 i) :: (.slice (some ad22) ps.length cw) :: (.int .i64 (ps.length : Int)) :: (.bool true) :: ((J3 17)) :: ((J3 18)) :: (.int .i64 v) :: ((u7 20)) :: ((u7 21)) :: ((u7 22)) :: ((u7 23)) :: ((u7 24)) :: ((u7 25)) :: ((u7 26)) :: ((u7 27)) :: ((u7 28)) :: ((u7 29)) :: ((u7 30)) :: ((u7 31)) :: ((u7 32)) :: ((u7 33)) :: ((u7 34)) :: ((u7 35)) :: ((u7 36)) :: ((u7 37)) :: ((u7 38)) :: ((u7 39)) :: ((u7 40)) :: ((u7 41)) :: (.int .i64 k) :: (.slice (some ad18) arcs.length c) :: (.int .i64 (arcs.length : Int)) :: (.bool true) :: (.int .i64 k) :: (.int .i64 (k + 1)) :: (.slice (some ad18) arcs.length c) :: (.int .i64 k) :: (.pointer (some (ad18.add (k.toNat * 2)))) :: (.pointer (some (ad18.add (k.toNat * 2)))) :: (.int .i64 ((gx arcs k).1)) :: (.int .i64 at_) :: (.bool true) :: (.slice (some ⟨g20, 0, none⟩) 0 0) :: (.slice (some ⟨g20, 0, none⟩) 0 0) :: (.slice (some ad22) ps.length cw) :: (.int .i64 i) :: (.pointer (some (ad22.add i.toNat))) :: (.slice Ay ly.length cy) :: (.slice A23 xs26.length c24) :: (.slice A23 xs26.length c24) :: (.int .i64 k) :: (.slice (some ⟨g27, 0, none⟩) 1 1) :: (.slice A29 xs32.length c30) :: (.slice Ao2 os2.length co2) :: (.slice A29 xs32.length c30) :: (.slice (some ⟨g33, 0, none⟩) 1 1) :: (.slice A35 xs38.length c36) :: undef :: []) k_ undef), k + 1, A35, c36, xs38, (((A29, c30), xs32) :: pz2), congrArg Fr (by kernel_rfl), rfl, by omega, by omega, by rw [xs38_, List.map_append, hos2, hst, List.append_assoc]; simp [hwe], by omega, fun p h => List.mem_cons_of_mem _ (hqs2 p h), fun p h => by rw [xs38_] at h; rcases List.mem_append.1 h with h9 | h9; exact List.mem_cons_of_mem _ (hoq2 p h9); rw [List.mem_singleton] at h9; rw [h9]; exact List.mem_cons_self .., HS⟩
        · skip
          refine ql (.bool false) (by kernel_rfl) (R_beq (b := ((gx arcs k).1 == at_)) (by kernel_rfl) (beq_f (hc19))) ?_
          refine wpList_nil ?_
          refine x_then ?_
          refine wp_cond_false (by kernel_rfl) ?_
          refine wp_skip ?_
          refine x_inb ?_
          refine x_then ?_
          refine wp_region_lit ?_
          refine ql (.int .i64 k) (by kernel_rfl) (by kernel_rfl) ?_
          refine ql (.int .i64 (k + 1)) (by kernel_rfl) (R_int (by kernel_rfl) (w64 (by omega))) ?_
          refine ql (.int .i64 (k + 1)) (by kernel_rfl) (by kernel_rfl) ?_
          refine wpList_nil ?_
          have hst := lg1_step (arcs := arcs) (k := k) (u := at_) (w := ly) k0 (by omega)
          rw [if_neg hc19, List.append_nil] at hst
          refine x_then ?_
          exact ⟨arcs.length - (k + 1).toNat, by omega, (fun k_ : Nat => List.getD ((.slice (some ad18) arcs.length c) :: (.int .i64 v) :: (.slice Aw ps.length cw) :: undef :: undef :: undef :: (.slice none 0 0) :: (.slice Ao2 os2.length co2) :: (.int .i64 i) :: (.int .i64 at_) :: (.int .i64 (k + 1)) :: ((J14 11)) :: (.slice (some ⟨g1, 0, none⟩) 0 0) :: (.int .i64 i) :: (.slice Aw ps.length cw) :: (.int .i64 (ps.length : Int)) :: (.bool true) :: ((J3 17)) :: ((J3 18)) :: (.int .i64 v) :: ((u7 20)) :: ((u7 21)) :: ((u7 22)) :: ((u7 23)) :: ((u7 24)) :: ((u7 25)) :: ((u7 26)) :: ((u7 27)) :: ((u7 28)) :: ((u7 29)) :: ((u7 30)) :: ((u7 31)) :: ((u7 32)) :: ((u7 33)) :: ((u7 34)) :: ((u7 35)) :: ((u7 36)) :: ((u7 37)) :: ((u7 38)) :: ((u7 39)) :: ((u7 40)) :: ((u7 41)) :: (.int .i64 k) :: (.slice (some ad18) arcs.length c) :: (.int .i64 (arcs.length : Int)) :: (.bool true) :: (.int .i64 k) :: (.int .i64 (k + 1)) :: (.slice (some ad18) arcs.length c) :: (.int .i64 k) :: (.pointer (some (ad18.add (k.toNat * 2)))) :: (.pointer (some (ad18.add (k.toNat * 2)))) :: (.int .i64 ((gx arcs k).1)) :: (.int .i64 at_) :: (.bool false) :: ((J14 55)) :: ((J14 56)) :: ((J14 57)) :: ((J14 58)) :: ((J14 59)) :: ((J14 60)) :: ((J14 61)) :: ((J14 62)) :: ((J14 63)) :: ((J14 64)) :: ((J14 65)) :: ((J14 66)) :: ((J14 67)) :: ((J14 68)) :: ((J14 69)) :: undef :: []) k_ undef), k + 1, Ao2, co2, os2, pz2, congrArg Fr (by kernel_rfl), rfl, by omega, by omega, by rw [hos2, hst], by omega, hqs2, hoq2, HS⟩
      · skip
        refine ql (.bool false) (by kernel_rfl) (R_nbool (p := k < (arcs.length : Int)) (by kernel_rfl) (hc17)) ?_
        refine wpList_nil ?_
        refine x_then ?_
        refine wp_cond_false (by kernel_rfl) ?_
        refine wp_exit ?_
        refine x_thenE ?_
        refine x_thenE ?_
        refine x_hit ?_
        refine x_inb ?_
        refine x_then ?_
        refine wp_region_lit ?_
        refine ql (.int .i64 i) (by kernel_rfl) (by kernel_rfl) ?_
        refine ql (.int .i64 (i + 1)) (by kernel_rfl) (R_int (by kernel_rfl) (w64 (by omega))) ?_
        refine ql (.int .i64 (i + 1)) (by kernel_rfl) (by kernel_rfl) ?_
        refine wpList_nil ?_
        have hst := lgr_step (arcs := arcs) (v := v) (ps := ps) i0 (by omega)
        rw [hy] at hst
        have hle := lg1_end (arcs := arcs) (k := k) (v := v) (w := ly) (by omega)
        refine x_then ?_
        exact ⟨ps.length - (i + 1).toNat, by omega, (fun k_ : Nat => List.getD ((.slice A arcs.length c) :: (.int .i64 v) :: (.slice Aw ps.length cw) :: undef :: undef :: undef :: (.slice none 0 0) :: (.slice Ao2 os2.length co2) :: (.int .i64 (i + 1)) :: (.int .i64 at_) :: (.int .i64 k) :: ((J14 11)) :: (.slice (some ⟨g1, 0, none⟩) 0 0) :: (.int .i64 i) :: (.slice Aw ps.length cw) :: (.int .i64 (ps.length : Int)) :: (.bool true) :: (.int .i64 i) :: (.int .i64 (i + 1)) :: (.int .i64 v) :: ((u7 20)) :: ((u7 21)) :: ((u7 22)) :: ((u7 23)) :: ((u7 24)) :: ((u7 25)) :: ((u7 26)) :: ((u7 27)) :: ((u7 28)) :: ((u7 29)) :: ((u7 30)) :: ((u7 31)) :: ((u7 32)) :: ((u7 33)) :: ((u7 34)) :: ((u7 35)) :: ((u7 36)) :: ((u7 37)) :: ((u7 38)) :: ((u7 39)) :: ((u7 40)) :: ((u7 41)) :: (.int .i64 k) :: (.slice A arcs.length c) :: (.int .i64 (arcs.length : Int)) :: (.bool false) :: ((J14 46)) :: ((J14 47)) :: ((J14 48)) :: ((J14 49)) :: ((J14 50)) :: ((J14 51)) :: ((J14 52)) :: ((J14 53)) :: ((J14 54)) :: ((J14 55)) :: ((J14 56)) :: ((J14 57)) :: ((J14 58)) :: ((J14 59)) :: ((J14 60)) :: ((J14 61)) :: ((J14 62)) :: ((J14 63)) :: ((J14 64)) :: ((J14 65)) :: ((J14 66)) :: ((J14 67)) :: ((J14 68)) :: ((J14 69)) :: undef :: []) k_ undef), i + 1, Ao2, co2, os2, pz2, congrArg Fr (by kernel_rfl), rfl, by omega, by omega, by rw [hos2, hst, hat, hle], by omega, hqs2, hoq2, HS⟩
  · skip
    refine ql (.bool false) (by kernel_rfl) (R_nbool (p := i < (ps.length : Int)) (by kernel_rfl) (hc6)) ?_
    refine wpList_nil ?_
    refine x_then ?_
    refine wp_cond_false (by kernel_rfl) ?_
    refine wp_exit ?_
    refine x_thenE ?_
    refine x_thenE ?_
    refine x_hit ?_
    refine x_then ?_
    refine wp_seq ?_
    refine wp_region_lit ?_
    refine ql (.slice Ao os.length co) (by kernel_rfl) (by kernel_rfl) ?_
    refine ql (.slice Ao os.length co) (by kernel_rfl) (by kernel_rfl) ?_
    refine wpList_nil ?_
    refine x_then ?_
    refine wp_ret ?_
    refine ret_ (.slice Ao os.length co) (by kernel_rfl) ?_
    rw [List.take_of_length_le (by omega)] at hos
    exact ⟨_, _, os, pz, rfl, HS, hos, by omega, hqs, hoq⟩

set_option maxRecDepth 100000 in
set_option maxHeartbeats 1000000 in
theorem rleast (Ao : Option Addr) (co : Nat) (os : List Pp) (G : List Int) (W : World) (hro : Rd W Ao (cp os)) (hpo : ∀ p ∈ os, Rd W p.1.1 (ci .i64 p.2)) (hpl : ∀ p ∈ os, p.2.length ≤ 10) (hol : os.length ≤ 1000000) (hmin : ∀ p ∈ os, p.2 = G ∨ lx G.reverse p.2.reverse < 0) (hG : ∃ p ∈ os, p.2 = G) : Calls Try.prog 44 #[.slice Ao os.length co] W fun e W' => ∃ (A' : Option Addr) (c' : Nat), e = .returned (.slice A' G.length c') ∧ ((A', c'), G) ∈ os ∧ St W (owns []) W' [] := by
  have HS : St W (owns []) W [] := St.start W _
  have hoj := has_at hG
  have ho1 : 1 ≤ os.length := by obtain ⟨j, a, b, _⟩ := hoj; omega
  refine calls_enter [.slice Ao os.length co, undef, undef, undef, undef, undef, undef, undef, undef, undef, undef, undef, undef, undef, undef, undef, undef, undef, undef, undef, undef, undef, undef, undef, undef] Try.func44 rfl (by kernel_rfl) ?_
  refine wp_seq ?_
  refine wp_region_lit ?_
  refine ql (.slice none 0 0) (by kernel_rfl) (by kernel_rfl) ?_
  refine wpList_nil ?_
  refine x_then ?_
  refine wp_seq ?_
  refine wp_region_lit ?_
  refine ql (.int .i64 0) (by kernel_rfl) (by kernel_rfl) ?_
  refine wpList_nil ?_
  refine x_then ?_
  refine wp_seq ?_
  refine wp_seq ?_
  refine wp_region_lit ?_
  refine ql (.int .i64 1) (by kernel_rfl) (by kernel_rfl) ?_
  refine wpList_nil ?_
  refine x_then ?_
  refine wp_block ?_
  refine wp_loop_ghost (fun kq a' w' => ∃ (J1 : Nat → Value) (i : Int) (k : Int) , a' = Fr [.slice Ao os.length co, undef, .slice none 0 0, .int .i64 k, .int .i64 i, (J1 5), (J1 6), (J1 7), (J1 8), (J1 9), (J1 10), (J1 11), (J1 12), (J1 13), (J1 14), (J1 15), (J1 16), (J1 17), (J1 18), (J1 19), (J1 20), undef, undef, undef, undef] ∧ kq = (os.length - (i).toNat) ∧ (1 ≤ i) ∧ (i ≤ os.length) ∧ (0 ≤ k) ∧ (k < os.length) ∧ ((∃ j : Int, 0 ≤ j ∧ j < i ∧ (gx os j).2 = G) → (gx os k).2 = G) ∧ St W (owns []) w' []) (os.length - ((1 : Int)).toNat) ⟨(fun k_ : Nat => List.getD [.slice Ao os.length co, undef, .slice none 0 0, .int .i64 0, .int .i64 1, undef, undef, undef, undef, undef, undef, undef, undef, undef, undef, undef, undef, undef, undef, undef, undef, undef, undef, undef, undef] k_ undef), (1 : Int), (0 : Int), congrArg Fr (by kernel_rfl), rfl, by omega, by omega, by omega, by omega, by rintro ⟨j, j0, j1, hj⟩; rw [show j = 0 by omega] at hj; exact hj, HS⟩ ?_
  clear HS
  intro kq2 a' W3 hrel
  obtain ⟨J1, i, k, rfl, hk, i0, i1, k0, k1, hinv, HS⟩ := hrel
  refine wp_seq ?_
  refine wp_seq ?_
  refine wp_region_lit ?_
  refine ql (.int .i64 i) (by kernel_rfl) (by kernel_rfl) ?_
  refine ql (.slice Ao os.length co) (by kernel_rfl) (by kernel_rfl) ?_
  refine ql (.int .i64 (os.length : Int)) (by kernel_rfl) (by kernel_rfl) ?_
  by_cases hc4 : i < (os.length : Int)
  · skip
    refine ql (.bool true) (by kernel_rfl) (R_bool (p := i < (os.length : Int)) (by kernel_rfl) (hc4)) ?_
    refine wpList_nil ?_
    refine x_then ?_
    refine wp_cond_true (by kernel_rfl) ?_
    refine wp_skip ?_
    refine x_then ?_
    refine wp_seq ?_
    refine wp_block ?_
    refine wp_seq ?_
    refine rg_still HS 8 (by kernel_rfl) (by kernel_rfl) ?_
    intro W5 H_ HK_
    simp only [List.take_succ_cons, List.take_zero, List.drop_succ_cons, List.drop_zero]
    replace HS : St W (owns []) W5 [] := H_
    clear H_
    clear HK_
    refine qs (.slice Ao os.length co) (by kernel_rfl) (by kernel_rfl) ?_
    refine qs (.int .i64 i) (by kernel_rfl) (by kernel_rfl) ?_
    obtain ⟨ad6, rfl⟩ := Rd.isSome_ hro (by rw [cp_len]; omega)
    refine qs (.pointer (some (ad6.add i.toNat))) (by kernel_rfl) (R_indexA1 (k := .i64) (p := ad6) (n := os.length) (c := co) (i := i) (by kernel_rfl) (by kernel_rfl) Try.underlying58 (by kernel_rfl) (by omega) (by omega)) ?_
    obtain ⟨Ay, cy, ly, hy⟩ : ∃ A_ c_ l_, gx os i = ((A_, c_), l_) := ⟨_, _, _, rfl⟩
    have hym := gx_in (xs := os) (i := i) (by omega) (by omega)
    rw [hy] at hym
    have hyr : Rd W Ay (ci .i64 ly) := hpo _ hym
    have hyl : ly.length ≤ 10 := hpl _ hym
    refine qs (.slice Ay ly.length cy) (by kernel_rfl) (R_load (p := ad6.add i.toNat) (by kernel_rfl) (by kernel_rfl) (by kernel_rfl) (HS.old0 (hro.at_ (cp_at (by omega) (by omega) hy)))) ?_
    refine qs (.slice (some ad6) os.length co) (by kernel_rfl) (by kernel_rfl) ?_
    refine qs (.int .i64 k) (by kernel_rfl) (by kernel_rfl) ?_
    refine qs (.pointer (some (ad6.add k.toNat))) (by kernel_rfl) (R_indexA1 (k := .i64) (p := ad6) (n := os.length) (c := co) (i := k) (by kernel_rfl) (by kernel_rfl) Try.underlying58 (by kernel_rfl) (by omega) (by omega)) ?_
    obtain ⟨Az, cz, lz, hz⟩ : ∃ A_ c_ l_, gx os k = ((A_, c_), l_) := ⟨_, _, _, rfl⟩
    have hzm := gx_in (xs := os) (i := k) (by omega) (by omega)
    rw [hz] at hzm
    have hzr : Rd W Az (ci .i64 lz) := hpo _ hzm
    have hzl : lz.length ≤ 10 := hpl _ hzm
    refine qs (.slice Az lz.length cz) (by kernel_rfl) (R_load (p := ad6.add k.toNat) (by kernel_rfl) (by kernel_rfl) (by kernel_rfl) (HS.old0 (hro.at_ (cp_at (by omega) (by omega) hz)))) ?_
    refine wpStill_nil ?_
    refine qc (f := 46) (args := #[.slice Ay ly.length cy, .slice Az lz.length cz]) (by kernel_rfl) (R_call #[.slice Ay ly.length cy, .slice Az lz.length cz] Try.func46 (by kernel_rfl) (by kernel_rfl) (by kernel_rfl)) ?_
    by_cases hb : lx ly.reverse lz.reverse < 0
    · skip
      refine (rless_t _ _ _ _ ly lz _ (hyr.old0 HS) (hzr.old0 HS) (by omega) (by omega) true (decide_eq_true hb)).mono ?_
      rintro e W7 ⟨rfl, H_⟩
      refine ⟨_, rfl, ?_⟩
      replace HS : St W (owns []) W7 [] := HS.join (F := []) (G := []) H_
      clear H_
      refine wpList_nil ?_
      refine x_then ?_
      refine wp_cond_true (by kernel_rfl) ?_
      refine wp_region_lit ?_
      refine ql (.int .i64 i) (by kernel_rfl) (by kernel_rfl) ?_
      refine ql (.int .i64 i) (by kernel_rfl) (by kernel_rfl) ?_
      refine wpList_nil ?_
      refine x_inb ?_
      refine x_then ?_
      refine wp_region_lit ?_
      refine ql (.int .i64 i) (by kernel_rfl) (by kernel_rfl) ?_
      refine ql (.int .i64 (i + 1)) (by kernel_rfl) (R_int (by kernel_rfl) (w64 (by omega))) ?_
      refine ql (.int .i64 (i + 1)) (by kernel_rfl) (by kernel_rfl) ?_
      refine wpList_nil ?_
      refine x_then ?_
      exact ⟨os.length - (i + 1).toNat, by omega, (fun k_ : Nat => List.getD [.slice (some ad6) os.length co, undef, .slice none 0 0, .int .i64 i, .int .i64 (i + 1), .int .i64 i, .slice (some ad6) os.length co, .int .i64 (os.length : Int), .bool true, .int .i64 i, .int .i64 (i + 1), .slice (some ad6) os.length co, .int .i64 i, .pointer (some (ad6.add i.toNat)), .slice Ay ly.length cy, .slice (some ad6) os.length co, .int .i64 k, .pointer (some (ad6.add k.toNat)), .slice Az lz.length cz, .bool true, .int .i64 i, undef, undef, undef, undef] k_ undef), i + 1, i, congrArg Fr (by kernel_rfl), rfl, by omega, by omega, by omega, by omega, least_less hmin (by omega) (by omega) hinv (by rw [hy, hz]; exact hb), HS⟩
    · skip
      refine (rless_t _ _ _ _ ly lz _ (hyr.old0 HS) (hzr.old0 HS) (by omega) (by omega) false (decide_eq_false hb)).mono ?_
      rintro e W8 ⟨rfl, H_⟩
      refine ⟨_, rfl, ?_⟩
      replace HS : St W (owns []) W8 [] := HS.join (F := []) (G := []) H_
      clear H_
      refine wpList_nil ?_
      refine x_then ?_
      refine wp_cond_false (by kernel_rfl) ?_
      refine wp_skip ?_
      refine x_inb ?_
      refine x_then ?_
      refine wp_region_lit ?_
      refine ql (.int .i64 i) (by kernel_rfl) (by kernel_rfl) ?_
      refine ql (.int .i64 (i + 1)) (by kernel_rfl) (R_int (by kernel_rfl) (w64 (by omega))) ?_
      refine ql (.int .i64 (i + 1)) (by kernel_rfl) (by kernel_rfl) ?_
      refine wpList_nil ?_
      refine x_then ?_
      exact ⟨os.length - (i + 1).toNat, by omega, (fun k_ : Nat => List.getD [.slice (some ad6) os.length co, undef, .slice none 0 0, .int .i64 k, .int .i64 (i + 1), .int .i64 i, .slice (some ad6) os.length co, .int .i64 (os.length : Int), .bool true, .int .i64 i, .int .i64 (i + 1), .slice (some ad6) os.length co, .int .i64 i, .pointer (some (ad6.add i.toNat)), .slice Ay ly.length cy, .slice (some ad6) os.length co, .int .i64 k, .pointer (some (ad6.add k.toNat)), .slice Az lz.length cz, .bool false, (J1 20), undef, undef, undef, undef] k_ undef), i + 1, k, congrArg Fr (by kernel_rfl), rfl, by omega, by omega, by omega, by omega, least_not hmin k0 k1 hinv (by rw [hy, hz]; exact hb), HS⟩
  · skip
    refine ql (.bool false) (by kernel_rfl) (R_nbool (p := i < (os.length : Int)) (by kernel_rfl) (hc4)) ?_
    refine wpList_nil ?_
    refine x_then ?_
    refine wp_cond_false (by kernel_rfl) ?_
    refine wp_exit ?_
    refine x_thenE ?_
    refine x_thenE ?_
    refine x_hit ?_
    refine x_then ?_
    refine wp_seq ?_
    refine wp_region_lit ?_
    refine ql (.slice Ao os.length co) (by kernel_rfl) (by kernel_rfl) ?_
    refine ql (.int .i64 k) (by kernel_rfl) (by kernel_rfl) ?_
    obtain ⟨ad9, rfl⟩ := Rd.isSome_ hro (by rw [cp_len]; omega)
    refine ql (.pointer (some (ad9.add k.toNat))) (by kernel_rfl) (R_indexA1 (k := .i64) (p := ad9) (n := os.length) (c := co) (i := k) (by kernel_rfl) (by kernel_rfl) Try.underlying58 (by kernel_rfl) (by omega) (by omega)) ?_
    obtain ⟨Az, cz, lz, hz⟩ : ∃ A_ c_ l_, gx os k = ((A_, c_), l_) := ⟨_, _, _, rfl⟩
    have hzm := gx_in (xs := os) (i := k) (by omega) (by omega)
    rw [hz] at hzm
    have hzr : Rd W Az (ci .i64 lz) := hpo _ hzm
    have hzl : lz.length ≤ 10 := hpl _ hzm
    refine ql (.slice Az lz.length cz) (by kernel_rfl) (R_load (p := ad9.add k.toNat) (by kernel_rfl) (by kernel_rfl) (by kernel_rfl) (HS.old0 (hro.at_ (cp_at (by omega) (by omega) hz)))) ?_
    refine ql (.slice Az lz.length cz) (by kernel_rfl) (by kernel_rfl) ?_
    refine wpList_nil ?_
    refine x_then ?_
    refine wp_ret ?_
    refine ret_ (.slice Az lz.length cz) (by kernel_rfl) ?_
    have hG9 : lz = G := by have h9 := hinv (by obtain ⟨j, a, b, h⟩ := hoj; exact ⟨j, a, by omega, h⟩); rw [hz] at h9; exact h9
    subst hG9
    exact ⟨_, _, rfl, hzm, HS⟩

theorem wk_case (N : Nat) (arcs : List (Int × Int)) (v t : Int) (l : List Int) (hv : 0 ≤ v ∧ v < N) : (wk arcs v l = some t ∧ tup (wkN N arcs v l) = .tuple #[.int .i64 t, .bool true]) ∨ (wk arcs v l ≠ some t ∧ ∃ u, u ≠ t ∧ tup (wkN N arcs v l) = .tuple #[.int .i64 u, .bool true]) ∨ (wk arcs v l ≠ some t ∧ tup (wkN N arcs v l) = .tuple #[.int .i64 0, .bool false]) := by
  unfold wkN
  rw [if_pos hv]
  cases h : wk arcs v l with
  | none => exact .inr (.inr ⟨by simp, rfl⟩)
  | some u =>
    by_cases e : u = t
    · subst e; exact .inl ⟨rfl, rfl⟩
    · exact .inr (.inl ⟨fun h9 => e (Option.some.inj h9), u, e, rfl⟩)
theorem wl_small {arcs : List (Int × Int)} {v d : Int} {ps : List Pp} (hm : arcs.length ≤ 10) (h : ps.map (fun p : Pp => p.2) = WL arcs v d.toNat) (hd : d ≤ 6) : ps.length ≤ 1000000 ∧ (∀ p ∈ ps, p.2.length ≤ 10) ∧ ∀ p ∈ ps, ∀ x ∈ p.2, 0 ≤ x ∧ x < arcs.length := by
  have hin : ∀ p ∈ ps, p.2 ∈ WL arcs v d.toNat := fun p hp => by rw [← h]; exact List.mem_map.2 ⟨p, hp, rfl⟩
  refine ⟨?_, fun p hp => ?_, fun p hp => (wl_sound _ _ (hin p hp)).2.2⟩
  · have h1 := wl_len (v := v) hm d.toNat
    rw [← h, List.length_map] at h1
    have h3 : 10 ^ d.toNat ≤ 10 ^ 6 := Nat.pow_le_pow_right (by omega) (by omega)
    omega
  · have := (wl_sound _ _ (hin p hp)).1; omega
theorem wl_next {arcs : List (Int × Int)} {v d : Int} (h : 0 ≤ d) : lgr arcs v (WL arcs v d.toNat) = WL arcs v (d + 1).toNat := by rw [show (d + 1).toNat = d.toNat + 1 by omega, WL]

theorem short_d {N : Nat} {arcs : List (Int × Int)} {v t d : Int} {ds : List Int} {os : List Pp} (hF : Fine N arcs) (hDS : DS N arcs v ds) (hvin : 0 ≤ v ∧ v < N) (ht : 0 ≤ t ∧ t < N ∧ 0 ≤ rdI ds t) (d0 : 0 ≤ d) (d1 : d ≤ rdI ds t) (hos : os.map (fun p : Pp => p.2) = ft arcs v t (WL arcs v d.toNat)) (hp : 0 < os.length) : d = rdI ds t := by
  by_cases h9 : d < rdI ds t
  · have h8 := ft_none (t := t) (k := d.toNat) hF hDS hvin.1 hvin.2 (by omega)
    rw [h8] at hos
    have := congrArg List.length hos
    rw [List.length_map, List.length_nil] at this
    omega
  · omega
theorem short_lt {N : Nat} {arcs : List (Int × Int)} {v t d : Int} {ds bs : List Int} {os : List Pp} (hF : Fine N arcs) (hDS : DS N arcs v ds) (hBK : BK N arcs ds bs) (hvin : 0 ≤ v ∧ v < N) (ht : 0 ≤ t ∧ t < N ∧ 0 ≤ rdI ds t) (d1 : d ≤ rdI ds t) (hos : os.map (fun p : Pp => p.2) = ft arcs v t (WL arcs v d.toNat)) (hp : os.length = 0) : d < rdI ds t := by
  by_cases h9 : d = rdI ds t
  · have h8 := ft_has hF hDS hBK ht.1 ht.2.1 ht.2.2
    rw [← h9, ← hos, List.eq_nil_of_length_eq_zero hp] at h8
    cases h8
  · omega

set_option maxRecDepth 100000 in
set_option maxHeartbeats 1000000 in
theorem rshortest (N : Nat) (A : Option Addr) (c : Nat) (arcs : List (Int × Int)) (v t : Int) (ds bs : List Int) (W : World) (hr : Rd W A (cf arcC arcs)) (hm : arcs.length ≤ 10) (hN : N ≤ 6) (hF : Fine N arcs) (hDS : DS N arcs v ds) (hBK : BK N arcs ds bs) (ht : 0 ≤ t ∧ t < N ∧ 0 ≤ rdI ds t) : Calls Try.prog 43 #[.int .i64 (N : Int), .slice A arcs.length c, .int .i64 v, .int .i64 t, .int .i64 (rdI ds t)] W fun e W' => ∃ (A' : Option Addr) (c' : Nat) (os pz : List Pp), e = .returned (.slice A' os.length c') ∧ St W (owns []) W' [row A' os.length c' (cp os) 28 1, pl pz] ∧ os.map (fun p : Pp => p.2) = ft arcs v t (WL arcs v (rdI ds t).toNat) ∧ (∀ p ∈ os, p ∈ pz) := by
  have HS : St W (owns []) W [] := St.start W _
  have hlv := lvl hDS.ld hDS.ze hDS.pr hF ht.1 ht.2.1
  have hvin := v_in hF hDS ht.1 ht.2.1 ht.2.2
  refine calls_enter ((.int .i64 (N : Int)) :: (.slice A arcs.length c) :: (.int .i64 v) :: (.int .i64 t) :: (.int .i64 (rdI ds t)) :: undef :: undef :: undef :: undef :: undef :: undef :: undef :: undef :: undef :: undef :: undef :: undef :: undef :: undef :: undef :: undef :: undef :: undef :: undef :: undef :: undef :: undef :: undef :: undef :: undef :: undef :: undef :: undef :: undef :: undef :: undef :: undef :: undef :: undef :: undef :: undef :: undef :: undef :: undef :: undef :: undef :: undef :: undef :: undef :: undef :: undef :: undef :: undef :: undef :: undef :: undef :: undef :: undef :: undef :: undef :: undef :: undef :: undef :: []) Try.func43 rfl (by kernel_rfl) ?_
  refine wp_seq ?_
  refine wp_region_lit ?_
  refine ql (.slice none 0 0) (by kernel_rfl) (by kernel_rfl) ?_
  refine wpList_nil ?_
  refine x_then ?_
  refine wp_seq ?_
  refine wp_region_lit ?_
  refine kl HS 0 [] 3 1 (by kernel_rfl) (by kernel_rfl) rfl (by decide) ?_
  intro g1 W2 H_
  replace HS : St W (owns []) W2 [row (some ⟨g1, 0, none⟩) 0 0 (ci .i64 ([])) 3 1] := H_.cast_ (by kernel_rfl)
  clear H_
  refine kl HS 1 [.slice (some ⟨g1, 0, none⟩) 0 0] 28 1 (by kernel_rfl) (by kernel_rfl) rfl (by decide) ?_
  intro g3 W4 H_
  replace HS : St W (owns []) W4 [row (some ⟨g3, 0, none⟩) 1 1 (cp ([((some ⟨g1, 0, none⟩, 0), [])])) 28 1, row (some ⟨g1, 0, none⟩) 0 0 (ci .i64 ([])) 3 1] := H_.cast_ (by kernel_rfl)
  clear H_
  refine ql (.slice (some ⟨g3, 0, none⟩) 1 1) (by kernel_rfl) (by kernel_rfl) ?_
  refine wpList_nil ?_
  refine x_then ?_
  refine wp_seq ?_
  refine wp_seq ?_
  refine wp_region_lit ?_
  refine ql (.int .i64 0) (by kernel_rfl) (by kernel_rfl) ?_
  refine wpList_nil ?_
  refine x_then ?_
  refine wp_block ?_
  replace HS : St W (owns []) W4 [row (some ⟨g1, 0, none⟩) 0 0 (ci .i64 ([])) 3 1, row (some ⟨g3, 0, none⟩) 1 1 (cp ([((some ⟨g1, 0, none⟩, 0), [])])) 28 1] := HS.perm (perm_ [1, 0] (by kernel_rfl) rfl)
  replace HS : St W (owns []) W4 [pl ([]), row (some ⟨g1, 0, none⟩) 0 0 (ci .i64 ([])) 3 1, row (some ⟨g3, 0, none⟩) 1 1 (cp ([((some ⟨g1, 0, none⟩, 0), [])])) 28 1] := St.noPool HS
  replace HS : St W (owns []) W4 [row (some ⟨g1, 0, none⟩) 0 0 (ci .i64 ([])) 3 1, pl ([]), row (some ⟨g3, 0, none⟩) 1 1 (cp ([((some ⟨g1, 0, none⟩, 0), [])])) 28 1] := HS.perm (perm_ [1, 0, 2] (by kernel_rfl) rfl)
  replace HS : St W (owns []) W4 [pl ([((some ⟨g1, 0, none⟩, 0), [])]), row (some ⟨g3, 0, none⟩) 1 1 (cp ([((some ⟨g1, 0, none⟩, 0), [])])) 28 1] := St.pool HS
  replace HS : St W (owns []) W4 [row (some ⟨g3, 0, none⟩) 1 1 (cp ([((some ⟨g1, 0, none⟩, 0), [])])) 28 1, pl ([((some ⟨g1, 0, none⟩, 0), [])])] := HS.perm (perm_ [1, 0] (by kernel_rfl) rfl)
  refine wp_loop_ghost (fun kq a' w' => ∃ (J5 : Nat → Value) (d : Int) (Aw : Option Addr) (cw : Nat) (ps : List Pp) (pz : List Pp) , a' = Fr ((.int .i64 (N : Int)) :: (.slice A arcs.length c) :: (.int .i64 v) :: (.int .i64 t) :: (.int .i64 (rdI ds t)) :: undef :: undef :: undef :: undef :: undef :: ((J5 10)) :: (.slice Aw ps.length cw) :: (.int .i64 d) :: ((J5 13)) :: ((J5 14)) :: ((J5 15)) :: ((J5 16)) :: (.slice (some ⟨g1, 0, none⟩) 0 0) :: (.slice (some ⟨g3, 0, none⟩) 1 1) :: ((J5 19)) :: ((J5 20)) :: ((J5 21)) :: ((J5 22)) :: ((J5 23)) :: ((J5 24)) :: ((J5 25)) :: ((J5 26)) :: ((J5 27)) :: ((J5 28)) :: ((J5 29)) :: ((J5 30)) :: ((J5 31)) :: ((J5 32)) :: ((J5 33)) :: ((J5 34)) :: ((J5 35)) :: ((J5 36)) :: ((J5 37)) :: ((J5 38)) :: ((J5 39)) :: ((J5 40)) :: ((J5 41)) :: ((J5 42)) :: ((J5 43)) :: ((J5 44)) :: ((J5 45)) :: ((J5 46)) :: ((J5 47)) :: ((J5 48)) :: ((J5 49)) :: ((J5 50)) :: ((J5 51)) :: ((J5 52)) :: ((J5 53)) :: ((J5 54)) :: ((J5 55)) :: ((J5 56)) :: ((J5 57)) :: ((J5 58)) :: ((J5 59)) :: ((J5 60)) :: ((J5 61)) :: ((J5 62)) :: []) ∧ kq = ((rdI ds t + 1 - d).toNat) ∧ (0 ≤ d) ∧ (d ≤ rdI ds t) ∧ (ps.map (fun p : Pp => p.2) = WL arcs v (d).toNat) ∧ (∀ p ∈ ps, p ∈ pz) ∧ St W (owns []) w' [row Aw ps.length cw (cp ps) 28 1, pl pz]) ((rdI ds t + 1 - (0 : Int)).toNat) ⟨(fun k_ : Nat => List.getD ((.int .i64 (N : Int)) :: (.slice A arcs.length c) :: (.int .i64 v) :: (.int .i64 t) :: (.int .i64 (rdI ds t)) :: undef :: undef :: undef :: undef :: undef :: (.slice none 0 0) :: (.slice (some ⟨g3, 0, none⟩) 1 1) :: (.int .i64 0) :: undef :: undef :: undef :: undef :: (.slice (some ⟨g1, 0, none⟩) 0 0) :: (.slice (some ⟨g3, 0, none⟩) 1 1) :: undef :: undef :: undef :: undef :: undef :: undef :: undef :: undef :: undef :: undef :: undef :: undef :: undef :: undef :: undef :: undef :: undef :: undef :: undef :: undef :: undef :: undef :: undef :: undef :: undef :: undef :: undef :: undef :: undef :: undef :: undef :: undef :: undef :: undef :: undef :: undef :: undef :: undef :: undef :: undef :: undef :: undef :: undef :: undef :: []) k_ undef), (0 : Int), some ⟨g3, 0, none⟩, 1, [((some ⟨g1, 0, none⟩, 0), [])], [((some ⟨g1, 0, none⟩, 0), [])], congrArg Fr (by kernel_rfl), rfl, by omega, by omega, by rfl, fun p h => h, HS⟩ ?_
  clear HS
  intro kq6 a' W7 hrel
  obtain ⟨J5, d, Aw, cw, ps, pz, rfl, hk, d0, d1, hps, hpq, HS⟩ := hrel
  have hwl := wl_small hm hps (by omega)
  refine wp_seq ?_
  refine wp_seq ?_
  refine wp_region_lit ?_
  refine ql (.int .i64 d) (by kernel_rfl) (by kernel_rfl) ?_
  refine ql (.int .i64 (rdI ds t)) (by kernel_rfl) (by kernel_rfl) ?_
  by_cases hc8 : d ≤ (rdI ds t)
  · skip
    refine ql (.bool true) (by kernel_rfl) (R_bool (p := d ≤ (rdI ds t)) (by kernel_rfl) (hc8)) ?_
    refine wpList_nil ?_
    refine x_then ?_
    refine wp_cond_true (by kernel_rfl) ?_
    refine wp_skip ?_
    refine x_then ?_
    refine wp_seq ?_
    refine wp_block ?_
    refine wp_seq ?_
    refine wp_region_lit ?_
    refine kl HS 0 [] 28 1 (by kernel_rfl) (by kernel_rfl) rfl (by decide) ?_
    intro g9 W10 H_
    replace HS : St W (owns []) W10 [row (some ⟨g9, 0, none⟩) 0 0 (cp ([])) 28 1, row Aw ps.length cw (cp ps) 28 1, pl pz] := H_.cast_ (by kernel_rfl)
    clear H_
    refine ql (.slice (some ⟨g9, 0, none⟩) 0 0) (by kernel_rfl) (by kernel_rfl) ?_
    refine wpList_nil ?_
    refine x_then ?_
    refine wp_seq ?_
    refine wp_seq ?_
    refine wp_region_lit ?_
    refine ql (.int .i64 0) (by kernel_rfl) (by kernel_rfl) ?_
    refine wpList_nil ?_
    refine x_then ?_
    refine wp_block ?_
    refine wp_loop_ghost (fun kq a' w' => ∃ (J11 : Nat → Value) (i : Int) (Ao : Option Addr) (co : Nat) (os : List Pp) , a' = Fr ((.int .i64 (N : Int)) :: (.slice A arcs.length c) :: (.int .i64 v) :: (.int .i64 t) :: (.int .i64 (rdI ds t)) :: undef :: undef :: undef :: undef :: undef :: ((J5 10)) :: (.slice Aw ps.length cw) :: (.int .i64 d) :: (.slice Ao os.length co) :: (.int .i64 i) :: ((J11 15)) :: ((J11 16)) :: (.slice (some ⟨g1, 0, none⟩) 0 0) :: (.slice (some ⟨g3, 0, none⟩) 1 1) :: (.int .i64 d) :: (.int .i64 (rdI ds t)) :: (.bool true) :: ((J5 22)) :: ((J5 23)) :: (.slice (some ⟨g9, 0, none⟩) 0 0) :: ((J11 25)) :: ((J11 26)) :: ((J11 27)) :: ((J11 28)) :: ((J11 29)) :: ((J11 30)) :: ((J11 31)) :: ((J11 32)) :: ((J11 33)) :: ((J11 34)) :: ((J11 35)) :: ((J11 36)) :: ((J11 37)) :: ((J11 38)) :: ((J11 39)) :: ((J11 40)) :: ((J11 41)) :: ((J11 42)) :: ((J11 43)) :: ((J11 44)) :: ((J11 45)) :: ((J11 46)) :: ((J11 47)) :: ((J11 48)) :: ((J11 49)) :: ((J11 50)) :: ((J11 51)) :: ((J11 52)) :: ((J11 53)) :: ((J11 54)) :: ((J5 55)) :: ((J5 56)) :: ((J5 57)) :: ((J5 58)) :: ((J5 59)) :: ((J5 60)) :: ((J5 61)) :: ((J5 62)) :: []) ∧ kq = (ps.length - (i).toNat) ∧ (0 ≤ i) ∧ (i ≤ ps.length) ∧ (os.map (fun p : Pp => p.2) = ft arcs v t ((ps.take (i).toNat).map (fun p : Pp => p.2))) ∧ ((os.length : Int) ≤ i) ∧ (∀ p ∈ os, p ∈ pz) ∧ St W (owns []) w' [row Ao os.length co (cp os) 28 1, row Aw ps.length cw (cp ps) 28 1, pl pz]) (ps.length - ((0 : Int)).toNat) ⟨(fun k_ : Nat => List.getD ((.int .i64 (N : Int)) :: (.slice A arcs.length c) :: (.int .i64 v) :: (.int .i64 t) :: (.int .i64 (rdI ds t)) :: undef :: undef :: undef :: undef :: undef :: ((J5 10)) :: (.slice Aw ps.length cw) :: (.int .i64 d) :: (.slice (some ⟨g9, 0, none⟩) 0 0) :: (.int .i64 0) :: ((J5 15)) :: ((J5 16)) :: (.slice (some ⟨g1, 0, none⟩) 0 0) :: (.slice (some ⟨g3, 0, none⟩) 1 1) :: (.int .i64 d) :: (.int .i64 (rdI ds t)) :: (.bool true) :: ((J5 22)) :: ((J5 23)) :: (.slice (some ⟨g9, 0, none⟩) 0 0) :: ((J5 25)) :: ((J5 26)) :: ((J5 27)) :: ((J5 28)) :: ((J5 29)) :: ((J5 30)) :: ((J5 31)) :: ((J5 32)) :: ((J5 33)) :: ((J5 34)) :: ((J5 35)) :: ((J5 36)) :: ((J5 37)) :: ((J5 38)) :: ((J5 39)) :: ((J5 40)) :: ((J5 41)) :: ((J5 42)) :: ((J5 43)) :: ((J5 44)) :: ((J5 45)) :: ((J5 46)) :: ((J5 47)) :: ((J5 48)) :: ((J5 49)) :: ((J5 50)) :: ((J5 51)) :: ((J5 52)) :: ((J5 53)) :: ((J5 54)) :: ((J5 55)) :: ((J5 56)) :: ((J5 57)) :: ((J5 58)) :: ((J5 59)) :: ((J5 60)) :: ((J5 61)) :: ((J5 62)) :: []) k_ undef), (0 : Int), some ⟨g9, 0, none⟩, 0, ([] : List Pp), congrArg Fr (by kernel_rfl), rfl, by omega, by omega, by rfl, by simp, by simp, HS⟩ ?_
    clear HS
    intro kq12 a' W13 hrel
    obtain ⟨J11, i, Ao, co, os, rfl, hk, i0, i1, hos, hol, hoq, HS⟩ := hrel
    refine wp_seq ?_
    refine wp_seq ?_
    refine wp_region_lit ?_
    refine ql (.int .i64 i) (by kernel_rfl) (by kernel_rfl) ?_
    refine ql (.slice Aw ps.length cw) (by kernel_rfl) (by kernel_rfl) ?_
    refine ql (.int .i64 (ps.length : Int)) (by kernel_rfl) (by kernel_rfl) ?_
    by_cases hc14 : i < (ps.length : Int)
    · skip
      refine ql (.bool true) (by kernel_rfl) (R_bool (p := i < (ps.length : Int)) (by kernel_rfl) (hc14)) ?_
      refine wpList_nil ?_
      refine x_then ?_
      refine wp_cond_true (by kernel_rfl) ?_
      refine wp_skip ?_
      refine x_then ?_
      refine wp_seq ?_
      refine wp_block ?_
      refine wp_seq ?_
      refine wp_region_lit ?_
      refine ql (.int .i64 (N : Int)) (by kernel_rfl) (by kernel_rfl) ?_
      refine ql (.slice A arcs.length c) (by kernel_rfl) (by kernel_rfl) ?_
      refine ql (.int .i64 v) (by kernel_rfl) (by kernel_rfl) ?_
      refine ql (.slice Aw ps.length cw) (by kernel_rfl) (by kernel_rfl) ?_
      refine ql (.int .i64 i) (by kernel_rfl) (by kernel_rfl) ?_
      obtain ⟨g15, rfl⟩ := St.rsome HS (i := 1) rfl (by omega)
      refine ql (.pointer (some ⟨g15, i.toNat, none⟩)) (by kernel_rfl) (R_index1 (k := .i64) (g := g15) (n := ps.length) (c := cw) (i := i) (by kernel_rfl) (by kernel_rfl) Try.underlying58 (by kernel_rfl) (by omega) (by omega)) ?_
      obtain ⟨Ay, cy, ly, hy⟩ : ∃ A_ c_ l_, gx ps i = ((A_, c_), l_) := ⟨_, _, _, rfl⟩
      have hym := gx_in (xs := ps) (i := i) (by omega) (by omega)
      rw [hy] at hym
      have hl10 : ly.length ≤ 10 := hwl.2.1 _ hym
      refine ql (.slice Ay ly.length cy) (by kernel_rfl) (R_load (p := ⟨g15, i.toNat, none⟩) (by kernel_rfl) (by kernel_rfl) (by kernel_rfl) (HS.rcell (i := 1) rfl (cp_at (by omega) (by omega) hy))) ?_
      refine qc (f := 48) (args := #[.int .i64 (N : Int), .slice A arcs.length c, .int .i64 v, .slice Ay ly.length cy]) (by kernel_rfl) (R_call #[.int .i64 (N : Int), .slice A arcs.length c, .int .i64 v, .slice Ay ly.length cy] Try.func48 (by kernel_rfl) (by kernel_rfl) (by kernel_rfl)) ?_
      rcases wk_case N arcs v t ly hvin with ⟨hw, hu⟩ | ⟨hw, u, hut, hu⟩ | ⟨hw, hu⟩
      · skip
        refine (rwalk N _ _ arcs _ (hr.old0 HS) (by omega) hF _ _ ly v (pl_rd (HS.get (i := 2) rfl) (hpq _ hym)) (by omega) t true hu).mono ?_
        rintro e W16 ⟨rfl, H_⟩
        refine ⟨_, rfl, ?_⟩
        replace HS : St W (owns []) W16 [row Ao os.length co (cp os) 28 1, row (some ⟨g15, 0, none⟩) ps.length cw (cp ps) 28 1, pl pz] := HS.join (F := []) (G := []) H_
        clear H_
        refine ql (.tuple #[.int .i64 t, .bool true]) (by kernel_rfl) (by kernel_rfl) ?_
        refine ql (.int .i64 t) (by kernel_rfl) (by kernel_rfl) ?_
        refine ql (.bool true) (by kernel_rfl) (by kernel_rfl) ?_
        refine ql (.int .i64 t) (by kernel_rfl) (by kernel_rfl) ?_
        refine ql (.bool true) (by kernel_rfl) (by kernel_rfl) ?_
        refine wpList_nil ?_
        refine x_then ?_
        refine wp_seq ?_
        refine wp_region_lit ?_
        refine ql (.bool true) (by kernel_rfl) (by kernel_rfl) ?_
        refine ql (.bool true) (by kernel_rfl) (by kernel_rfl) ?_
        refine ql (.int .i64 t) (by kernel_rfl) (by kernel_rfl) ?_
        refine ql (.int .i64 t) (by kernel_rfl) (by kernel_rfl) ?_
        refine ql (.bool true) (by kernel_rfl) (R_beq (b := (t == t)) (by kernel_rfl) (beq_t (by omega))) ?_
        refine ql (.bool true) (by kernel_rfl) (by kernel_rfl) ?_
        refine wpList_nil ?_
        refine x_then ?_
        refine wp_cond_true (by kernel_rfl) ?_
        refine wp_region_lit ?_
        refine ql (.slice Ao os.length co) (by kernel_rfl) (by kernel_rfl) ?_
        refine ql (.slice (some ⟨g15, 0, none⟩) ps.length cw) (by kernel_rfl) (by kernel_rfl) ?_
        refine ql (.int .i64 i) (by kernel_rfl) (by kernel_rfl) ?_
        refine ql (.pointer (some ⟨g15, i.toNat, none⟩)) (by kernel_rfl) (R_index1 (k := .i64) (g := g15) (n := ps.length) (c := cw) (i := i) (by kernel_rfl) (by kernel_rfl) Try.underlying58 (by kernel_rfl) (by omega) (by omega)) ?_
        refine ql (.slice Ay ly.length cy) (by kernel_rfl) (R_load (p := ⟨g15, i.toNat, none⟩) (by kernel_rfl) (by kernel_rfl) (by kernel_rfl) (HS.rcell (i := 1) rfl (cp_at (by omega) (by omega) hy))) ?_
        refine kl HS 1 [.slice Ay ly.length cy] 28 1 (by kernel_rfl) (by kernel_rfl) rfl (by decide) ?_
        intro g17 W18 H_
        replace HS : St W (owns []) W18 [row (some ⟨g17, 0, none⟩) 1 1 (cp ([((Ay, cy), ly)])) 28 1, row Ao os.length co (cp os) 28 1, row (some ⟨g15, 0, none⟩) ps.length cw (cp ps) 28 1, pl pz] := H_.cast_ (by kernel_rfl)
        clear H_
        obtain ⟨xs22, xs22_⟩ : ∃ z_ : List Pp, z_ = os ++ ([((Ay, cy), ly)]) := ⟨_, rfl⟩
        have xs22l : xs22.length = os.length + 1 := by rw [xs22_, List.length_append] <;> (try simp only [List.length_cons, List.length_nil]) <;> omega
        refine ka1 HS 1 rfl (Src.of_row HS (i := 0) rfl cp_one) [.slice none 0 0] 24 xs22.length (cp xs22) (by omega) (by rw [xs22_, cp_app]) (by kernel_rfl) (by kernel_rfl) (by kernel_rfl) Try.underlying58 (by kernel_rfl) (by kernel_rfl) (by kernel_rfl) (by kernel_rfl) (by decide) (by omega) (by omega) ?_
        intro A19 c20 W21 H_
        replace HS : St W (owns []) W21 [row (some ⟨g17, 0, none⟩) 1 1 (cp ([((Ay, cy), ly)])) 28 1, row A19 xs22.length c20 (cp xs22) 28 1, row (some ⟨g15, 0, none⟩) ps.length cw (cp ps) 28 1, pl pz] := H_
        clear H_
        refine ql (.slice A19 xs22.length c20) (by kernel_rfl) (by kernel_rfl) ?_
        refine wpList_nil ?_
        refine x_inb ?_
        refine x_then ?_
        refine wp_region_lit ?_
        refine ql (.int .i64 i) (by kernel_rfl) (by kernel_rfl) ?_
        refine ql (.int .i64 (i + 1)) (by kernel_rfl) (R_int (by kernel_rfl) (w64 (by omega))) ?_
        refine ql (.int .i64 (i + 1)) (by kernel_rfl) (by kernel_rfl) ?_
        refine wpList_nil ?_
        replace HS := HS.drop1
        have hst := ft_step (arcs := arcs) (v := v) (t := t) (ps := ps) i0 (by omega)
        rw [hy] at hst
        rw [if_pos hw] at hst
        refine x_then ?_
        exact ⟨ps.length - (i + 1).toNat, by omega, (fun k_ : Nat => List.getD ((.int .i64 (N : Int)) :: (.slice A arcs.length c) :: (.int .i64 v) :: (.int .i64 t) :: (.int .i64 (rdI ds t)) :: undef :: undef :: undef :: undef :: undef :: ((J5 10)) :: (.slice (some ⟨g15, 0, none⟩) ps.length cw) :: (.int .i64 d) :: (.slice A19 xs22.length c20) :: (.int .i64 (i + 1)) :: (.int .i64 t) :: (.bool true) :: (.slice (some ⟨g1, 0, none⟩) 0 0) :: (.slice (some ⟨g3, 0, none⟩) 1 1) :: (.int .i64 d) :: (.int .i64 (rdI ds t)) :: (.bool true) :: ((J5 22)) :: ((J5 23)) :: (.slice (some ⟨g9, 0, none⟩) 0 0) :: (.int .i64 i) :: (.slice (some ⟨g15, 0, none⟩) ps.length cw) :: (.int .i64 (ps.length : Int)) :: (.bool true) :: (.int .i64 i) :: (.int .i64 (i + 1)) :: (.tuple #[.int .i64 t, .bool true]) :: (.int .i64 (N : Int)) :: (.slice A arcs.length c) :: (.int .i64 v) :: (.slice (some ⟨g15, 0, none⟩) ps.length cw) :: (.int .i64 i) :: (.pointer (some ⟨g15, i.toNat, none⟩)) :: (.slice Ay ly.length cy) :: (.tuple #[.int .i64 t, .bool true]) :: (.int .i64 t) :: (.bool true) :: (.bool true) :: (.bool true) :: (.int .i64 t) :: (.int .i64 t) :: (.bool true) :: (.bool true) :: (.slice Ao os.length co) :: (.slice (some ⟨g15, 0, none⟩) ps.length cw) :: (.int .i64 i) :: (.pointer (some ⟨g15, i.toNat, none⟩)) :: (.slice Ay ly.length cy) :: (.slice (some ⟨g17, 0, none⟩) 1 1) :: (.slice A19 xs22.length c20) :: ((J5 55)) :: ((J5 56)) :: ((J5 57)) :: ((J5 58)) :: ((J5 59)) :: ((J5 60)) :: ((J5 61)) :: ((J5 62)) :: []) k_ undef), i + 1, A19, c20, xs22, congrArg Fr (by kernel_rfl), rfl, by omega, by omega, by rw [xs22_, List.map_append, hos, hst]; rfl, by omega, fun p h => by rw [xs22_] at h; rcases List.mem_append.1 h with h9 | h9; exact hoq p h9; rw [List.mem_singleton] at h9; rw [h9]; exact hpq _ hym, HS⟩
      · skip
        refine (rwalk N _ _ arcs _ (hr.old0 HS) (by omega) hF _ _ ly v (pl_rd (HS.get (i := 2) rfl) (hpq _ hym)) (by omega) u true hu).mono ?_
        rintro e W23 ⟨rfl, H_⟩
        refine ⟨_, rfl, ?_⟩
        replace HS : St W (owns []) W23 [row Ao os.length co (cp os) 28 1, row (some ⟨g15, 0, none⟩) ps.length cw (cp ps) 28 1, pl pz] := HS.join (F := []) (G := []) H_
        clear H_
        refine ql (.tuple #[.int .i64 u, .bool true]) (by kernel_rfl) (by kernel_rfl) ?_
        refine ql (.int .i64 u) (by kernel_rfl) (by kernel_rfl) ?_
        refine ql (.bool true) (by kernel_rfl) (by kernel_rfl) ?_
        refine ql (.int .i64 u) (by kernel_rfl) (by kernel_rfl) ?_
        refine ql (.bool true) (by kernel_rfl) (by kernel_rfl) ?_
        refine wpList_nil ?_
        refine x_then ?_
        refine wp_seq ?_
        refine wp_region_lit ?_
        refine ql (.bool true) (by kernel_rfl) (by kernel_rfl) ?_
        refine ql (.bool true) (by kernel_rfl) (by kernel_rfl) ?_
        refine ql (.int .i64 u) (by kernel_rfl) (by kernel_rfl) ?_
        refine ql (.int .i64 t) (by kernel_rfl) (by kernel_rfl) ?_
        refine ql (.bool false) (by kernel_rfl) (R_beq (b := (u == t)) (by kernel_rfl) (beq_f (by omega))) ?_
        refine ql (.bool false) (by kernel_rfl) (by kernel_rfl) ?_
        refine wpList_nil ?_
        refine x_then ?_
        refine wp_cond_false (by kernel_rfl) ?_
        refine wp_skip ?_
        refine x_inb ?_
        refine x_then ?_
        refine wp_region_lit ?_
        refine ql (.int .i64 i) (by kernel_rfl) (by kernel_rfl) ?_
        refine ql (.int .i64 (i + 1)) (by kernel_rfl) (R_int (by kernel_rfl) (w64 (by omega))) ?_
        refine ql (.int .i64 (i + 1)) (by kernel_rfl) (by kernel_rfl) ?_
        refine wpList_nil ?_
        have hst := ft_step (arcs := arcs) (v := v) (t := t) (ps := ps) i0 (by omega)
        rw [hy] at hst
        rw [if_neg hw] at hst
        refine x_then ?_
        exact ⟨ps.length - (i + 1).toNat, by omega, (fun k_ : Nat => List.getD ((.int .i64 (N : Int)) :: (.slice A arcs.length c) :: (.int .i64 v) :: (.int .i64 t) :: (.int .i64 (rdI ds t)) :: undef :: undef :: undef :: undef :: undef :: ((J5 10)) :: (.slice (some ⟨g15, 0, none⟩) ps.length cw) :: (.int .i64 d) :: (.slice Ao os.length co) :: (.int .i64 (i + 1)) :: (.int .i64 u) :: (.bool true) :: (.slice (some ⟨g1, 0, none⟩) 0 0) :: (.slice (some ⟨g3, 0, none⟩) 1 1) :: (.int .i64 d) :: (.int .i64 (rdI ds t)) :: (.bool true) :: ((J5 22)) :: ((J5 23)) :: (.slice (some ⟨g9, 0, none⟩) 0 0) :: (.int .i64 i) :: (.slice (some ⟨g15, 0, none⟩) ps.length cw) :: (.int .i64 (ps.length : Int)) :: (.bool true) :: (.int .i64 i) :: (.int .i64 (i + 1)) :: (.tuple #[.int .i64 u, .bool true]) :: (.int .i64 (N : Int)) :: (.slice A arcs.length c) :: (.int .i64 v) :: (.slice (some ⟨g15, 0, none⟩) ps.length cw) :: (.int .i64 i) :: (.pointer (some ⟨g15, i.toNat, none⟩)) :: (.slice Ay ly.length cy) :: (.tuple #[.int .i64 u, .bool true]) :: (.int .i64 u) :: (.bool true) :: (.bool true) :: (.bool true) :: (.int .i64 u) :: (.int .i64 t) :: (.bool false) :: (.bool false) :: ((J11 48)) :: ((J11 49)) :: ((J11 50)) :: ((J11 51)) :: ((J11 52)) :: ((J11 53)) :: ((J11 54)) :: ((J5 55)) :: ((J5 56)) :: ((J5 57)) :: ((J5 58)) :: ((J5 59)) :: ((J5 60)) :: ((J5 61)) :: ((J5 62)) :: []) k_ undef), i + 1, Ao, co, os, congrArg Fr (by kernel_rfl), rfl, by omega, by omega, by rw [hos, hst, List.append_nil], by omega, hoq, HS⟩
      · skip
        refine (rwalk N _ _ arcs _ (hr.old0 HS) (by omega) hF _ _ ly v (pl_rd (HS.get (i := 2) rfl) (hpq _ hym)) (by omega) 0 false hu).mono ?_
        rintro e W24 ⟨rfl, H_⟩
        refine ⟨_, rfl, ?_⟩
        replace HS : St W (owns []) W24 [row Ao os.length co (cp os) 28 1, row (some ⟨g15, 0, none⟩) ps.length cw (cp ps) 28 1, pl pz] := HS.join (F := []) (G := []) H_
        clear H_
        refine ql (.tuple #[.int .i64 0, .bool false]) (by kernel_rfl) (by kernel_rfl) ?_
        refine ql (.int .i64 0) (by kernel_rfl) (by kernel_rfl) ?_
        refine ql (.bool false) (by kernel_rfl) (by kernel_rfl) ?_
        refine ql (.int .i64 0) (by kernel_rfl) (by kernel_rfl) ?_
        refine ql (.bool false) (by kernel_rfl) (by kernel_rfl) ?_
        refine wpList_nil ?_
        refine x_then ?_
        refine wp_seq ?_
        refine wp_region_lit ?_
        refine ql (.bool false) (by kernel_rfl) (by kernel_rfl) ?_
        refine ql (.bool false) (by kernel_rfl) (by kernel_rfl) ?_
        refine qln (by kernel_rfl) ?_
        refine qln (by kernel_rfl) ?_
        refine qln (by kernel_rfl) ?_
        refine ql (.bool false) (by kernel_rfl) (by kernel_rfl) ?_
        refine wpList_nil ?_
        refine x_then ?_
        refine wp_cond_false (by kernel_rfl) ?_
        refine wp_skip ?_
        refine x_inb ?_
        refine x_then ?_
        refine wp_region_lit ?_
        refine ql (.int .i64 i) (by kernel_rfl) (by kernel_rfl) ?_
        refine ql (.int .i64 (i + 1)) (by kernel_rfl) (R_int (by kernel_rfl) (w64 (by omega))) ?_
        refine ql (.int .i64 (i + 1)) (by kernel_rfl) (by kernel_rfl) ?_
        refine wpList_nil ?_
        have hst := ft_step (arcs := arcs) (v := v) (t := t) (ps := ps) i0 (by omega)
        rw [hy] at hst
        rw [if_neg hw] at hst
        refine x_then ?_
        exact ⟨ps.length - (i + 1).toNat, by omega, (fun k_ : Nat => List.getD ((.int .i64 (N : Int)) :: (.slice A arcs.length c) :: (.int .i64 v) :: (.int .i64 t) :: (.int .i64 (rdI ds t)) :: undef :: undef :: undef :: undef :: undef :: ((J5 10)) :: (.slice (some ⟨g15, 0, none⟩) ps.length cw) :: (.int .i64 d) :: (.slice Ao os.length co) :: (.int .i64 (i + 1)) :: (.int .i64 0) :: (.bool false) :: (.slice (some ⟨g1, 0, none⟩) 0 0) :: (.slice (some ⟨g3, 0, none⟩) 1 1) :: (.int .i64 d) :: (.int .i64 (rdI ds t)) :: (.bool true) :: ((J5 22)) :: ((J5 23)) :: (.slice (some ⟨g9, 0, none⟩) 0 0) :: (.int .i64 i) :: (.slice (some ⟨g15, 0, none⟩) ps.length cw) :: (.int .i64 (ps.length : Int)) :: (.bool true) :: (.int .i64 i) :: (.int .i64 (i + 1)) :: (.tuple #[.int .i64 0, .bool false]) :: (.int .i64 (N : Int)) :: (.slice A arcs.length c) :: (.int .i64 v) :: (.slice (some ⟨g15, 0, none⟩) ps.length cw) :: (.int .i64 i) :: (.pointer (some ⟨g15, i.toNat, none⟩)) :: (.slice Ay ly.length cy) :: (.tuple #[.int .i64 0, .bool false]) :: (.int .i64 0) :: (.bool false) :: (.bool false) :: (.bool false) :: undef :: undef :: undef :: (.bool false) :: ((J11 48)) :: ((J11 49)) :: ((J11 50)) :: ((J11 51)) :: ((J11 52)) :: ((J11 53)) :: ((J11 54)) :: ((J5 55)) :: ((J5 56)) :: ((J5 57)) :: ((J5 58)) :: ((J5 59)) :: ((J5 60)) :: ((J5 61)) :: ((J5 62)) :: []) k_ undef), i + 1, Ao, co, os, congrArg Fr (by kernel_rfl), rfl, by omega, by omega, by rw [hos, hst, List.append_nil], by omega, hoq, HS⟩
    · skip
      refine ql (.bool false) (by kernel_rfl) (R_nbool (p := i < (ps.length : Int)) (by kernel_rfl) (hc14)) ?_
      refine wpList_nil ?_
      refine x_then ?_
      refine wp_cond_false (by kernel_rfl) ?_
      refine wp_exit ?_
      refine x_thenE ?_
      refine x_thenE ?_
      refine x_hit ?_
      refine x_then ?_
      refine wp_seq ?_
      refine wp_seq ?_
      rw [List.take_of_length_le (by omega), hps] at hos
      refine wp_region_lit ?_
      refine ql (.slice Ao os.length co) (by kernel_rfl) (by kernel_rfl) ?_
      refine ql (.int .i64 (os.length : Int)) (by kernel_rfl) (by kernel_rfl) ?_
      by_cases hc25 : (os.length : Int) > (0 : Int)
      · skip
        have hdd : d = rdI ds t := short_d hF hDS hvin ht d0 d1 hos (by omega)
        refine ql (.bool true) (by kernel_rfl) (R_bool (p := (os.length : Int) > (0 : Int)) (by kernel_rfl) (hc25)) ?_
        refine wpList_nil ?_
        refine x_then ?_
        refine wp_cond_true (by kernel_rfl) ?_
        refine wp_seq ?_
        refine wp_region_lit ?_
        refine ql (.slice Ao os.length co) (by kernel_rfl) (by kernel_rfl) ?_
        refine ql (.slice Ao os.length co) (by kernel_rfl) (by kernel_rfl) ?_
        refine wpList_nil ?_
        refine x_then ?_
        refine wp_ret ?_
        refine x_thenR ?_
        refine x_inbR ?_
        refine x_thenR ?_
        refine x_thenR ?_
        refine x_inbR ?_
        refine x_thenR ?_
        refine ret_ (.slice Ao os.length co) (by kernel_rfl) ?_
        replace HS : St W (owns []) W13 [row Ao os.length co (cp os) 28 1, pl pz] := St.tail (F := [row Aw ps.length cw (cp ps) 28 1]) (HS.perm (perm_ [1, 0, 2] (by kernel_rfl) rfl))
        rw [hdd] at hos
        exact ⟨_, _, os, pz, rfl, HS, hos, hoq⟩
      · skip
        have hdd : d < rdI ds t := short_lt hF hDS hBK hvin ht d1 hos (by omega)
        refine ql (.bool false) (by kernel_rfl) (R_nbool (p := (os.length : Int) > (0 : Int)) (by kernel_rfl) (hc25)) ?_
        refine wpList_nil ?_
        refine x_then ?_
        refine wp_cond_false (by kernel_rfl) ?_
        refine wp_skip ?_
        refine x_then ?_
        refine wp_region_lit ?_
        refine ql (.slice A arcs.length c) (by kernel_rfl) (by kernel_rfl) ?_
        refine ql (.int .i64 v) (by kernel_rfl) (by kernel_rfl) ?_
        refine ql (.slice Aw ps.length cw) (by kernel_rfl) (by kernel_rfl) ?_
        refine qc (f := 58) (args := #[.slice A arcs.length c, .int .i64 v, .slice Aw ps.length cw]) (by kernel_rfl) (R_call #[.slice A arcs.length c, .int .i64 v, .slice Aw ps.length cw] Try.func58 (by kernel_rfl) (by kernel_rfl) (by kernel_rfl)) ?_
        replace HS : St W (owns []) W13 [pl pz, row Aw ps.length cw (cp ps) 28 1] := St.tail (F := [row Ao os.length co (cp os) 28 1]) (HS.perm (perm_ [0, 2, 1] (by kernel_rfl) rfl))
        refine (rlonger A Aw c cw arcs v ps pz _ _ (St.focus (F := [pl pz]) HS) (RdF.of_old (F := [pl pz]) hr HS) (RdF.of_row (F := [pl pz]) (L := [row Aw ps.length cw (cp ps) 28 1]) (i := 0) (n := ps.length) (c := cw) (t := 28) (z := 1) HS rfl) hm hwl.1 hwl.2.1 hwl.2.2 hpq).mono ?_
        rintro e W26 ⟨An, cn, ns, pz9, rfl, H_, hnm, hnl, hnz, hnq⟩
        refine ⟨_, rfl, ?_⟩
        replace HS : St W (owns []) W26 [row An ns.length cn (cp ns) 28 1, pl pz9, row Aw ps.length cw (cp ps) 28 1] := HS.join (F := [pl pz]) (G := [row An ns.length cn (cp ns) 28 1, pl pz9]) H_
        clear H_
        replace HS : St W (owns []) W26 [row An ns.length cn (cp ns) 28 1, pl pz9] := St.tail (F := [row Aw ps.length cw (cp ps) 28 1]) (HS.perm (perm_ [2, 0, 1] (by kernel_rfl) rfl))
        refine ql (.slice An ns.length cn) (by kernel_rfl) (by kernel_rfl) ?_
        refine wpList_nil ?_
        refine x_inb ?_
        refine x_then ?_
        refine wp_region_lit ?_
        refine ql (.int .i64 d) (by kernel_rfl) (by kernel_rfl) ?_
        refine ql (.int .i64 (d + 1)) (by kernel_rfl) (R_int (by kernel_rfl) (w64 (by omega))) ?_
        refine ql (.int .i64 (d + 1)) (by kernel_rfl) (by kernel_rfl) ?_
        refine wpList_nil ?_
        refine x_then ?_
        exact ⟨(rdI ds t + 1 - (d + 1)).toNat, by omega, (fun k_ : Nat => List.getD ((.int .i64 (N : Int)) :: (.slice A arcs.length c) :: (.int .i64 v) :: (.int .i64 t) :: (.int .i64 (rdI ds t)) :: undef :: undef :: undef :: undef :: undef :: ((J5 10)) :: (.slice An ns.length cn) :: (.int .i64 (d + 1)) :: (.slice Ao os.length co) :: (.int .i64 i) :: ((J11 15)) :: ((J11 16)) :: (.slice (some ⟨g1, 0, none⟩) 0 0) :: (.slice (some ⟨g3, 0, none⟩) 1 1) :: (.int .i64 d) :: (.int .i64 (rdI ds t)) :: (.bool true) :: (.int .i64 d) :: (.int .i64 (d + 1)) :: (.slice (some ⟨g9, 0, none⟩) 0 0) :: (.int .i64 i) :: (.slice Aw ps.length cw) :: (.int .i64 (ps.length : Int)) :: (.bool false) :: ((J11 29)) :: ((J11 30)) :: ((J11 31)) :: ((J11 32)) :: ((J11 33)) :: ((J11 34)) :: ((J11 35)) :: ((J11 36)) :: ((J11 37)) :: ((J11 38)) :: ((J11 39)) :: ((J11 40)) :: ((J11 41)) :: ((J11 42)) :: ((J11 43)) :: ((J11 44)) :: ((J11 45)) :: ((J11 46)) :: ((J11 47)) :: ((J11 48)) :: ((J11 49)) :: ((J11 50)) :: ((J11 51)) :: ((J11 52)) :: ((J11 53)) :: ((J11 54)) :: (.slice Ao os.length co) :: (.int .i64 (os.length : Int)) :: (.bool false) :: ((J5 58)) :: (.slice A arcs.length c) :: (.int .i64 v) :: (.slice Aw ps.length cw) :: (.slice An ns.length cn) :: []) k_ undef), d + 1, An, cn, ns, pz9, congrArg Fr (by kernel_rfl), rfl, by omega, by omega, by rw [hnm, hps, wl_next d0], hnq, HS⟩
  · skip
    refine ql (.bool false) (by kernel_rfl) (R_nbool (p := d ≤ (rdI ds t)) (by kernel_rfl) (hc8)) ?_
    refine wpList_nil ?_
    refine x_then ?_
    refine wp_cond_false (by kernel_rfl) ?_
    refine wp_exit ?_
    refine x_thenE ?_
    refine x_thenE ?_
    refine x_hit ?_
    refine x_then ?_
    refine wp_seq ?_
    refine wp_region_lit ?_
    refine ql (.slice none 0 0) (by kernel_rfl) (by kernel_rfl) ?_
    refine wpList_nil ?_
    refine x_then ?_
    refine wp_ret ?_
    refine ret_ (.slice none 0 0) (by kernel_rfl) ?_
    exact absurd d1 (by omega)

theorem from_cc (g N : Nat) (arcs : List (Int × Int)) (v : Int) (gc tc : Nat) (k0 : Int) (W0 W : World) (hG : GAt W0 g N arcs) (hB0 : Below W0.heap.size W0 W) (hgc : W0.heap.size ≤ gc) (HS : St W (owns [blk gc [.int .i64 0, .int .i64 0, .int .i64 0, .int .i64 0, .int .i64 0, .int .i64 0, .int .i64 k0] tc]) W [blk gc [.int .i64 0, .int .i64 0, .int .i64 0, .int .i64 0, .int .i64 0, .int .i64 0, .int .i64 k0] tc]) (hk0 : 0 ≤ k0) (hk9 : k0 ≤ 1099511627776) (hN : N ≤ 1048576) (hm : arcs.length ≤ 67108864) : Calls Try.prog 30 #[.pointer (some ⟨g, 0, none⟩), .int .i64 v, .pointer (some ⟨gc, 0, none⟩)] W fun e W' => ∃ (t : Nat) (D B : Option Addr) (cd cb : Nat) (ds bs : List Int) (k : Nat), e = .returned (.pointer (some ⟨t, 0, none⟩)) ∧ St W (owns [blk gc [.int .i64 0, .int .i64 0, .int .i64 0, .int .i64 0, .int .i64 0, .int .i64 0, .int .i64 k0] tc]) W' [blk t [.int .i64 v, .slice D ds.length cd, .slice B bs.length cb] 72, row D ds.length cd (ci .i64 ds) 3 1, row B bs.length cb (ci .i64 bs) 3 1, blk gc [.int .i64 0, .int .i64 0, .int .i64 0, .int .i64 0, .int .i64 0, .int .i64 0, .int .i64 (k0 + ((k : Nat) : Int))] tc] ∧ DS N arcs v ds ∧ BK N arcs ds bs ∧ k ≤ N + arcs.length := by
  by_cases hv : 0 ≤ v ∧ v < N
  · refine (from_yes_c g N arcs v gc tc k0 W0 W hG hB0 hgc HS hk0 hk9 hN hm hv.1 hv.2).mono ?_
    rintro e W' ⟨t, D, B, cd, cb, ds, bs, k, he, hs, hd, hb, hk⟩
    have e1 := hd.ld
    have e2 := hb.lb
    refine ⟨t, D, B, cd, cb, ds, bs, k, he, ?_, hd, hb, hk⟩
    rw [e1, e2]; exact hs
  · refine (from_no_c g N arcs v gc tc k0 W0 W hG hB0 hgc HS hk0 hk9 hN hm hv).mono ?_
    rintro e W' ⟨t, D, B, cd, cb, ds, bs, k, he, hs, hd, hb, hk⟩
    have e1 := hd.ld
    have e2 := hb.lb
    refine ⟨t, D, B, cd, cb, ds, bs, k, he, ?_, hd, hb, hk⟩
    rw [e1, e2]; exact hs

set_option maxRecDepth 100000 in
set_option maxHeartbeats 1000000 in
theorem shortC (g N : Nat) (arcs : List (Int × Int)) (v : Int) (gc tc : Nat) (k0 : Int) (W0 W : World) (hG : GAt W0 g N arcs) (hB0 : Below W0.heap.size W0 W) (hgc : W0.heap.size ≤ gc) (HS : St W (owns [blk gc [.int .i64 0, .int .i64 0, .int .i64 0, .int .i64 0, .int .i64 0, .int .i64 0, .int .i64 k0] tc]) W [blk gc [.int .i64 0, .int .i64 0, .int .i64 0, .int .i64 0, .int .i64 0, .int .i64 0, .int .i64 k0] tc]) (hk0 : 0 ≤ k0) (hk9 : k0 ≤ 1099511627776) (hN : N ≤ 1048576) (hm : arcs.length ≤ 67108864) (t0 : Int) : Calls Try.prog 41 #[.pointer (some ⟨g, 0, none⟩), .int .i64 v, .int .i64 t0, .pointer (some ⟨gc, 0, none⟩)] W fun e W' => ∃ (ds bs : List Int) (kt : Nat), DS N arcs v ds ∧ BK N arcs ds bs ∧ kt ≤ 2 * N + arcs.length ∧ (((0 ≤ t0 ∧ t0 < N ∧ 0 ≤ rdI ds t0) ∧ ∃ A' c', e = .returned (.tuple #[.slice A' (rl arcs bs (rdI ds t0).toNat t0).reverse.length c', .bool true]) ∧ St W (owns [blk gc [.int .i64 0, .int .i64 0, .int .i64 0, .int .i64 0, .int .i64 0, .int .i64 0, .int .i64 k0] tc]) W' [row A' (rl arcs bs (rdI ds t0).toNat t0).reverse.length c' (ci .i64 (rl arcs bs (rdI ds t0).toNat t0).reverse) 3 1, blk gc [.int .i64 0, .int .i64 0, .int .i64 0, .int .i64 0, .int .i64 0, .int .i64 0, .int .i64 (k0 + ((kt : Nat) : Int))] tc]) ∨ (¬ (0 ≤ t0 ∧ t0 < N ∧ 0 ≤ rdI ds t0) ∧ e = .returned (.tuple #[.slice none 0 0, .bool false]) ∧ St W (owns [blk gc [.int .i64 0, .int .i64 0, .int .i64 0, .int .i64 0, .int .i64 0, .int .i64 0, .int .i64 k0] tc]) W' [blk gc [.int .i64 0, .int .i64 0, .int .i64 0, .int .i64 0, .int .i64 0, .int .i64 0, .int .i64 (k0 + ((kt : Nat) : Int))] tc])) := by
  have hF := hG.fine
  refine calls_enter [.pointer (some ⟨g, 0, none⟩), .int .i64 v, .int .i64 t0, .pointer (some ⟨gc, 0, none⟩), undef, undef, undef, undef, undef, undef, undef, undef, undef, undef, undef, undef, undef, undef, undef, undef, undef, undef, undef, undef, undef, undef, undef, undef, undef, undef, undef, undef, undef, undef, undef, undef, undef, undef, undef, undef, undef, undef, undef, undef, undef, undef] Try.func41 rfl (by kernel_rfl) ?_
  refine wp_seq ?_
  refine wp_region_lit ?_
  refine ql (.slice none 0 0) (by kernel_rfl) (by kernel_rfl) ?_
  refine ql (.bool false) (by kernel_rfl) (by kernel_rfl) ?_
  refine wpList_nil ?_
  refine x_then ?_
  refine wp_seq ?_
  refine wp_region_lit ?_
  refine ql (.pointer (some ⟨g, 0, none⟩)) (by kernel_rfl) (by kernel_rfl) ?_
  refine ql (.int .i64 v) (by kernel_rfl) (by kernel_rfl) ?_
  refine ql (.pointer (some ⟨gc, 0, none⟩)) (by kernel_rfl) (by kernel_rfl) ?_
  refine qc (f := 30) (args := #[.pointer (some ⟨g, 0, none⟩), .int .i64 v, .pointer (some ⟨gc, 0, none⟩)]) (by kernel_rfl) (R_call #[.pointer (some ⟨g, 0, none⟩), .int .i64 v, .pointer (some ⟨gc, 0, none⟩)] Try.func30 (by kernel_rfl) (by kernel_rfl) (by kernel_rfl)) ?_
  refine (from_cc g N arcs v gc tc k0 W0 _ hG hB0 hgc (St.focus (F := [blk gc [.int .i64 0, .int .i64 0, .int .i64 0, .int .i64 0, .int .i64 0, .int .i64 0, .int .i64 k0] tc]) HS) hk0 hk9 hN hm).mono ?_
  rintro e W1 ⟨t, D, B, cd, cb, ds, bs, k, rfl, H_, hD, hK, hk⟩
  refine ⟨_, rfl, ?_⟩
  replace HS : St W (owns [blk gc [.int .i64 0, .int .i64 0, .int .i64 0, .int .i64 0, .int .i64 0, .int .i64 0, .int .i64 k0] tc]) W1 [blk t [.int .i64 v, .slice D ds.length cd, .slice B bs.length cb] 72, row D ds.length cd (ci .i64 ds) 3 1, row B bs.length cb (ci .i64 bs) 3 1, blk gc [.int .i64 0, .int .i64 0, .int .i64 0, .int .i64 0, .int .i64 0, .int .i64 0, .int .i64 (k0 + ((k : Nat) : Int))] tc] := HS.join (F := [blk gc [.int .i64 0, .int .i64 0, .int .i64 0, .int .i64 0, .int .i64 0, .int .i64 0, .int .i64 k0] tc]) (G := [blk t [.int .i64 v, .slice D ds.length cd, .slice B bs.length cb] 72, row D ds.length cd (ci .i64 ds) 3 1, row B bs.length cb (ci .i64 bs) 3 1, blk gc [.int .i64 0, .int .i64 0, .int .i64 0, .int .i64 0, .int .i64 0, .int .i64 0, .int .i64 (k0 + ((k : Nat) : Int))] tc]) H_
  clear H_
  have hdl := hD.ld
  have hbl := hK.lb
  refine ql (.pointer (some ⟨t, 0, none⟩)) (by kernel_rfl) (by kernel_rfl) ?_
  refine wpList_nil ?_
  refine x_then ?_
  refine wp_seq ?_
  refine wp_seq ?_
  refine wp_region_lit ?_
  refine ql (.pointer (some ⟨t, 0, none⟩)) (by kernel_rfl) (by kernel_rfl) ?_
  refine ql (.int .i64 t0) (by kernel_rfl) (by kernel_rfl) ?_
  refine qc (f := 31) (args := #[.pointer (some ⟨t, 0, none⟩), .int .i64 t0]) (by kernel_rfl) (R_call #[.pointer (some ⟨t, 0, none⟩), .int .i64 t0] Try.func31 (by kernel_rfl) (by kernel_rfl) (by kernel_rfl)) ?_
  by_cases hv2 : 0 ≤ t0 ∧ t0 < (N : Int)
  · skip
    refine (tdist_yes t D B cd cb ds bs _ t0 (HS.cell (i := 0) (j := 1) rfl rfl) (HS.cell (i := 0) (j := 2) rfl rfl) (Rd.row HS (i := 1) rfl) (Rd.row HS (i := 2) rfl) (by omega) ⟨by omega, by omega⟩).mono ?_
    rintro e W3 ⟨rfl, H_⟩
    refine ⟨_, rfl, ?_⟩
    replace HS : St W (owns [blk gc [.int .i64 0, .int .i64 0, .int .i64 0, .int .i64 0, .int .i64 0, .int .i64 0, .int .i64 k0] tc]) W3 [blk t [.int .i64 v, .slice D ds.length cd, .slice B bs.length cb] 72, row D ds.length cd (ci .i64 ds) 3 1, row B bs.length cb (ci .i64 bs) 3 1, blk gc [.int .i64 0, .int .i64 0, .int .i64 0, .int .i64 0, .int .i64 0, .int .i64 0, .int .i64 (k0 + ((k : Nat) : Int))] tc] := HS.join (F := []) (G := []) H_
    clear H_
    by_cases hc4 : (rdI ds t0) < (0 : Int)
    · skip
      refine ql (.bool true) (by kernel_rfl) (R_bool (p := (rdI ds t0) < (0 : Int)) (by kernel_rfl) (hc4)) ?_
      refine wpList_nil ?_
      refine x_then ?_
      refine wp_cond_true (by kernel_rfl) ?_
      refine wp_seq ?_
      refine wp_region_lit ?_
      refine ql (.slice none 0 0) (by kernel_rfl) (by kernel_rfl) ?_
      refine ql (.bool false) (by kernel_rfl) (by kernel_rfl) ?_
      refine wpList_nil ?_
      refine x_then ?_
      refine wp_ret ?_
      refine x_thenR ?_
      refine ret_ (.tuple #[.slice none 0 0, .bool false]) (by kernel_rfl) ?_
      replace HS := HS.drop1
      replace HS := HS.drop1
      replace HS := HS.drop1
      exact ⟨ds, bs, k, hD, hK, by omega, .inr ⟨by omega, rfl, HS⟩⟩
    · skip
      refine ql (.bool false) (by kernel_rfl) (R_nbool (p := (rdI ds t0) < (0 : Int)) (by kernel_rfl) (hc4)) ?_
      refine wpList_nil ?_
      refine x_then ?_
      refine wp_cond_false (by kernel_rfl) ?_
      refine wp_skip ?_
      refine x_then ?_
      refine wp_seq ?_
      refine wp_region_lit ?_
      refine ql (.slice none 0 0) (by kernel_rfl) (by kernel_rfl) ?_
      refine wpList_nil ?_
      refine x_then ?_
      refine wp_seq ?_
      refine wp_block ?_
      have ht : 0 ≤ t0 ∧ t0 < N ∧ 0 ≤ rdI ds t0 := by omega
      have hlv := lvl hD.ld hD.ze hD.pr hF ht.1 ht.2.1
      replace HS : St W (owns [blk gc [.int .i64 0, .int .i64 0, .int .i64 0, .int .i64 0, .int .i64 0, .int .i64 0, .int .i64 k0] tc]) W3 [row none 0 0 (ci .i64 ([])) 3 1, blk t [.int .i64 v, .slice D ds.length cd, .slice B bs.length cb] 72, row D ds.length cd (ci .i64 ds) 3 1, row B bs.length cb (ci .i64 bs) 3 1, blk gc [.int .i64 0, .int .i64 0, .int .i64 0, .int .i64 0, .int .i64 0, .int .i64 0, .int .i64 (k0 + ((k : Nat) : Int))] tc] := (HS.nilRow 3 1).cast_ (by kernel_rfl)
      refine wp_loop_ghost (fun kq a' w' => ∃ (J5 : Nat → Value) (Ao : Option Addr) (co : Nat) (os : List Int) (u : Int) (kc : Nat) , a' = Fr [.pointer (some ⟨g, 0, none⟩), .int .i64 v, .int .i64 u, .pointer (some ⟨gc, 0, none⟩), undef, undef, undef, undef, .slice none 0 0, .bool false, .pointer (some ⟨t, 0, none⟩), .slice Ao os.length co, (J5 12), (J5 13), (J5 14), .pointer (some ⟨g, 0, none⟩), .int .i64 v, .pointer (some ⟨gc, 0, none⟩), .pointer (some ⟨t, 0, none⟩), .pointer (some ⟨t, 0, none⟩), .int .i64 t0, .int .i64 (rdI ds t0), .bool false, (J5 23), (J5 24), (J5 25), (J5 26), (J5 27), (J5 28), (J5 29), (J5 30), (J5 31), (J5 32), (J5 33), (J5 34), (J5 35), (J5 36), (J5 37), (J5 38), (J5 39), (J5 40), (J5 41), (J5 42), undef, undef, undef] ∧ kq = ((rdI ds u).toNat) ∧ (0 ≤ u) ∧ (u < N) ∧ (0 ≤ rdI ds u) ∧ (rl arcs bs (rdI ds t0).toNat t0 = os ++ rl arcs bs (rdI ds u).toNat u) ∧ ((os.length : Int) + rdI ds u = rdI ds t0) ∧ (kc = k + os.length) ∧ St W (owns [blk gc [.int .i64 0, .int .i64 0, .int .i64 0, .int .i64 0, .int .i64 0, .int .i64 0, .int .i64 k0] tc]) w' [row Ao os.length co (ci .i64 os) 3 1, blk t [.int .i64 v, .slice D ds.length cd, .slice B bs.length cb] 72, row D ds.length cd (ci .i64 ds) 3 1, row B bs.length cb (ci .i64 bs) 3 1, blk gc [.int .i64 0, .int .i64 0, .int .i64 0, .int .i64 0, .int .i64 0, .int .i64 0, .int .i64 (k0 + ((kc : Nat) : Int))] tc]) ((rdI ds t0).toNat) ⟨(fun k_ : Nat => List.getD [.pointer (some ⟨g, 0, none⟩), .int .i64 v, .int .i64 t0, .pointer (some ⟨gc, 0, none⟩), undef, undef, undef, undef, .slice none 0 0, .bool false, .pointer (some ⟨t, 0, none⟩), .slice none 0 0, undef, undef, undef, .pointer (some ⟨g, 0, none⟩), .int .i64 v, .pointer (some ⟨gc, 0, none⟩), .pointer (some ⟨t, 0, none⟩), .pointer (some ⟨t, 0, none⟩), .int .i64 t0, .int .i64 (rdI ds t0), .bool false, undef, undef, undef, undef, undef, undef, undef, undef, undef, undef, undef, undef, undef, undef, undef, undef, undef, undef, undef, undef, undef, undef, undef] k_ undef), none, 0, ([] : List Int), t0, k, congrArg Fr (by kernel_rfl), rfl, ht.1, ht.2.1, ht.2.2, by simp, by simp, by simp, HS⟩ ?_
      clear HS
      intro kq6 a' W7 hrel
      obtain ⟨J5, Ao, co, os, u, kc, rfl, hk, u0, u1, hd0, hO, hol, hkc, HS⟩ := hrel
      refine wp_seq ?_
      refine wp_seq ?_
      refine wp_region_lit ?_
      refine ql (.int .i64 u) (by kernel_rfl) (by kernel_rfl) ?_
      refine ql (.int .i64 v) (by kernel_rfl) (by kernel_rfl) ?_
      by_cases hc8 : u = v
      · skip
        refine ql (.bool false) (by kernel_rfl) (R_beq (b := (u != v)) (by kernel_rfl) (bne_f (hc8))) ?_
        refine wpList_nil ?_
        refine x_then ?_
        refine wp_cond_false (by kernel_rfl) ?_
        refine wp_exit ?_
        refine x_thenE ?_
        refine x_thenE ?_
        refine x_hit ?_
        refine x_then ?_
        refine wp_seq ?_
        refine wp_region_lit ?_
        refine ql (.slice Ao os.length co) (by kernel_rfl) (by kernel_rfl) ?_
        refine qc (f := 57) (args := #[.slice Ao os.length co]) (by kernel_rfl) (R_call #[.slice Ao os.length co] Try.func57 (by kernel_rfl) (by kernel_rfl) (by kernel_rfl)) ?_
        have hz : rdI ds u = 0 := (hD.ze u u0 u1).2 (by omega)
        have hO2 : os = rl arcs bs (rdI ds t0).toNat t0 := by rw [hO, hz]; simp [rl_zero]
        refine (crev Ao os.length co os _ _ (St.focus (F := [row Ao os.length co (ci .i64 os) 3 1]) HS) rfl (by omega)).mono ?_
        rintro e W9 ⟨rfl, H_⟩
        refine ⟨_, rfl, ?_⟩
        replace HS : St W (owns [blk gc [.int .i64 0, .int .i64 0, .int .i64 0, .int .i64 0, .int .i64 0, .int .i64 0, .int .i64 k0] tc]) W9 [row Ao os.length co (ci .i64 os.reverse) 3 1, blk t [.int .i64 v, .slice D ds.length cd, .slice B bs.length cb] 72, row D ds.length cd (ci .i64 ds) 3 1, row B bs.length cb (ci .i64 bs) 3 1, blk gc [.int .i64 0, .int .i64 0, .int .i64 0, .int .i64 0, .int .i64 0, .int .i64 0, .int .i64 (k0 + ((kc : Nat) : Int))] tc] := HS.join (F := [row Ao os.length co (ci .i64 os) 3 1]) (G := [row Ao os.length co (ci .i64 os.reverse) 3 1]) H_
        clear H_
        refine wpList_nil ?_
        refine x_then ?_
        refine wp_seq ?_
        refine wp_region_lit ?_
        refine ql (.slice Ao os.length co) (by kernel_rfl) (by kernel_rfl) ?_
        refine ql (.slice Ao os.length co) (by kernel_rfl) (by kernel_rfl) ?_
        refine ql (.bool true) (by kernel_rfl) (by kernel_rfl) ?_
        refine wpList_nil ?_
        refine x_then ?_
        refine wp_ret ?_
        refine ret_ (.tuple #[.slice Ao os.length co, .bool true]) (by kernel_rfl) ?_
        replace HS : St W (owns [blk gc [.int .i64 0, .int .i64 0, .int .i64 0, .int .i64 0, .int .i64 0, .int .i64 0, .int .i64 k0] tc]) W9 [row Ao os.length co (ci .i64 os.reverse) 3 1, blk gc [.int .i64 0, .int .i64 0, .int .i64 0, .int .i64 0, .int .i64 0, .int .i64 0, .int .i64 (k0 + ((kc : Nat) : Int))] tc] := St.tail (F := [blk t [.int .i64 v, .slice D ds.length cd, .slice B bs.length cb] 72, row D ds.length cd (ci .i64 ds) 3 1, row B bs.length cb (ci .i64 bs) 3 1]) (HS.perm (perm_ [1, 2, 3, 0, 4] (by kernel_rfl) rfl))
        subst hO2
        have hlr : (rl arcs bs (rdI ds t0).toNat t0).length = (rl arcs bs (rdI ds t0).toNat t0).reverse.length := List.length_reverse.symm
        rw [hlr] at HS ⊢
        have hkt : kc ≤ 2 * N + arcs.length := by rw [hkc]; omega
        exact ⟨ds, bs, kc, hD, hK, hkt, .inl ⟨ht, _, _, rfl, HS⟩⟩
      · skip
        refine ql (.bool true) (by kernel_rfl) (R_beq (b := (u != v)) (by kernel_rfl) (bne_t (hc8))) ?_
        refine wpList_nil ?_
        refine x_then ?_
        refine wp_cond_true (by kernel_rfl) ?_
        refine wp_skip ?_
        refine x_then ?_
        refine wp_block ?_
        refine wp_seq ?_
        have hpos : 0 < rdI ds u := by have hz := hD.ze u u0 u1; by_cases h9 : rdI ds u = 0; exact absurd (hz.1 h9) hc8; omega
        obtain ⟨p1, p2, p3, p4⟩ := hK.bk u u0 u1 hpos
        have hfi := gx_fine hF p1 p2
        refine wp_region_lit ?_
        refine ql (.pointer (some ⟨gc, 0, none⟩)) (by kernel_rfl) (by kernel_rfl) ?_
        refine qc (f := 54) (args := #[.pointer (some ⟨gc, 0, none⟩), .int .i64 6, .int .i64 1]) (by kernel_rfl) (R_call #[.pointer (some ⟨gc, 0, none⟩), .int .i64 6, .int .i64 1] Try.func54 (by kernel_rfl) (by kernel_rfl) (by kernel_rfl)) ?_
        replace HS : St W (owns [blk gc [.int .i64 0, .int .i64 0, .int .i64 0, .int .i64 0, .int .i64 0, .int .i64 0, .int .i64 k0] tc]) W7 [blk gc [.int .i64 0, .int .i64 0, .int .i64 0, .int .i64 0, .int .i64 0, .int .i64 0, .int .i64 (k0 + ((kc : Nat) : Int))] tc, row Ao os.length co (ci .i64 os) 3 1, blk t [.int .i64 v, .slice D ds.length cd, .slice B bs.length cb] 72, row D ds.length cd (ci .i64 ds) 3 1, row B bs.length cb (ci .i64 bs) 3 1] := HS.perm (perm_ [4, 0, 1, 2, 3] (by kernel_rfl) rfl)
        refine (cadd_blk gc tc (k0 + ((kc : Nat) : Int)) _ _ (St.focus (F := [blk gc [.int .i64 0, .int .i64 0, .int .i64 0, .int .i64 0, .int .i64 0, .int .i64 0, .int .i64 (k0 + ((kc : Nat) : Int))] tc]) HS) (by omega) (by omega)).mono ?_
        rintro e W10 ⟨rfl, H_⟩
        refine ⟨_, rfl, ?_⟩
        replace HS : St W (owns [blk gc [.int .i64 0, .int .i64 0, .int .i64 0, .int .i64 0, .int .i64 0, .int .i64 0, .int .i64 k0] tc]) W10 [blk gc [.int .i64 0, .int .i64 0, .int .i64 0, .int .i64 0, .int .i64 0, .int .i64 0, .int .i64 (k0 + ((kc : Nat) : Int) + 1)] tc, row Ao os.length co (ci .i64 os) 3 1, blk t [.int .i64 v, .slice D ds.length cd, .slice B bs.length cb] 72, row D ds.length cd (ci .i64 ds) 3 1, row B bs.length cb (ci .i64 bs) 3 1] := HS.join (F := [blk gc [.int .i64 0, .int .i64 0, .int .i64 0, .int .i64 0, .int .i64 0, .int .i64 0, .int .i64 (k0 + ((kc : Nat) : Int))] tc]) (G := [blk gc [.int .i64 0, .int .i64 0, .int .i64 0, .int .i64 0, .int .i64 0, .int .i64 0, .int .i64 (k0 + ((kc : Nat) : Int) + 1)] tc]) H_
        clear H_
        have hk1 : k0 + ((kc : Nat) : Int) + 1 = k0 + (((kc + 1 : Nat) : Nat) : Int) := by omega
        rw [hk1] at HS
        clear hk1
        refine wpList_nil ?_
        refine x_then ?_
        refine wp_seq ?_
        refine wp_region_lit ?_
        refine ql (.pointer (some ⟨t, 0, none⟩)) (by kernel_rfl) (by kernel_rfl) ?_
        refine ql (.int .i64 u) (by kernel_rfl) (by kernel_rfl) ?_
        refine qc (f := 34) (args := #[.pointer (some ⟨t, 0, none⟩), .int .i64 u]) (by kernel_rfl) (R_call #[.pointer (some ⟨t, 0, none⟩), .int .i64 u] Try.func34 (by kernel_rfl) (by kernel_rfl) (by kernel_rfl)) ?_
        refine (tback_yes t D B cd cb ds bs _ u (HS.cell (i := 2) (j := 1) rfl rfl) (HS.cell (i := 2) (j := 2) rfl rfl) (Rd.row HS (i := 3) rfl) (Rd.row HS (i := 4) rfl) (by omega) ⟨by omega, by omega⟩).mono ?_
        rintro e W11 ⟨rfl, H_⟩
        refine ⟨_, rfl, ?_⟩
        replace HS : St W (owns [blk gc [.int .i64 0, .int .i64 0, .int .i64 0, .int .i64 0, .int .i64 0, .int .i64 0, .int .i64 k0] tc]) W11 [blk gc [.int .i64 0, .int .i64 0, .int .i64 0, .int .i64 0, .int .i64 0, .int .i64 0, .int .i64 (k0 + (((kc + 1 : Nat) : Nat) : Int))] tc, row Ao os.length co (ci .i64 os) 3 1, blk t [.int .i64 v, .slice D ds.length cd, .slice B bs.length cb] 72, row D ds.length cd (ci .i64 ds) 3 1, row B bs.length cb (ci .i64 bs) 3 1] := HS.join (F := []) (G := []) H_
        clear H_
        refine ql (.int .i64 (rdI bs u)) (by kernel_rfl) (by kernel_rfl) ?_
        refine wpList_nil ?_
        refine x_then ?_
        refine wp_seq ?_
        refine wp_region_lit ?_
        refine ql (.pointer (some ⟨g, 0, none⟩)) (by kernel_rfl) (by kernel_rfl) ?_
        refine ql (.int .i64 (rdI bs u)) (by kernel_rfl) (by kernel_rfl) ?_
        refine qc (f := 22) (args := #[.pointer (some ⟨g, 0, none⟩), .int .i64 (rdI bs u)]) (by kernel_rfl) (R_call #[.pointer (some ⟨g, 0, none⟩), .int .i64 (rdI bs u)] Try.func22 (by kernel_rfl) (by kernel_rfl) (by kernel_rfl)) ?_
        refine (arc_yes g N arcs _ (hG.below (below_gc hB0 HS hgc)) (rdI bs u) p1 p2).mono ?_
        rintro e W12 ⟨rfl, H_⟩
        refine ⟨_, rfl, ?_⟩
        replace HS : St W (owns [blk gc [.int .i64 0, .int .i64 0, .int .i64 0, .int .i64 0, .int .i64 0, .int .i64 0, .int .i64 k0] tc]) W12 [blk gc [.int .i64 0, .int .i64 0, .int .i64 0, .int .i64 0, .int .i64 0, .int .i64 0, .int .i64 (k0 + (((kc + 1 : Nat) : Nat) : Int))] tc, row Ao os.length co (ci .i64 os) 3 1, blk t [.int .i64 v, .slice D ds.length cd, .slice B bs.length cb] 72, row D ds.length cd (ci .i64 ds) 3 1, row B bs.length cb (ci .i64 bs) 3 1] := HS.join (F := []) (G := []) H_
        clear H_
        refine ql (.tuple #[.agg #[.int .i64 ((gx arcs (rdI bs u)).1), .int .i64 ((gx arcs (rdI bs u)).2)], .bool true]) (by kernel_rfl) (by kernel_rfl) ?_
        refine ql (.agg #[.int .i64 ((gx arcs (rdI bs u)).1), .int .i64 ((gx arcs (rdI bs u)).2)]) (by kernel_rfl) (by kernel_rfl) ?_
        refine ql (.bool true) (by kernel_rfl) (by kernel_rfl) ?_
        refine kb HS [.int .i64 0, .int .i64 0] 35 (fun g => .pointer (some ⟨g, 0, none⟩)) (by kernel_rfl) (by kernel_rfl) ?_
        intro g13 W14 H_
        replace HS : St W (owns [blk gc [.int .i64 0, .int .i64 0, .int .i64 0, .int .i64 0, .int .i64 0, .int .i64 0, .int .i64 k0] tc]) W14 [blk g13 [.int .i64 0, .int .i64 0] 35, blk gc [.int .i64 0, .int .i64 0, .int .i64 0, .int .i64 0, .int .i64 0, .int .i64 0, .int .i64 (k0 + (((kc + 1 : Nat) : Nat) : Int))] tc, row Ao os.length co (ci .i64 os) 3 1, blk t [.int .i64 v, .slice D ds.length cd, .slice B bs.length cb] 72, row D ds.length cd (ci .i64 ds) 3 1, row B bs.length cb (ci .i64 bs) 3 1] := H_
        clear H_
        refine ks (v := .agg #[.int .i64 ((gx arcs (rdI bs u)).1), .int .i64 ((gx arcs (rdI bs u)).2)]) HS 0 rfl (0) [.int .i64 ((gx arcs (rdI bs u)).1), .int .i64 ((gx arcs (rdI bs u)).2)] (by kernel_rfl) (by kernel_rfl) (by kernel_rfl) (by kernel_rfl) (by kernel_rfl) (one_ (by kernel_rfl)) (Nat.le_of_ble_eq_true rfl) rfl ?_
        intro W15 H_
        replace HS : St W (owns [blk gc [.int .i64 0, .int .i64 0, .int .i64 0, .int .i64 0, .int .i64 0, .int .i64 0, .int .i64 k0] tc]) W15 [blk g13 [.int .i64 ((gx arcs (rdI bs u)).1), .int .i64 ((gx arcs (rdI bs u)).2)] 35, blk gc [.int .i64 0, .int .i64 0, .int .i64 0, .int .i64 0, .int .i64 0, .int .i64 0, .int .i64 (k0 + (((kc + 1 : Nat) : Nat) : Int))] tc, row Ao os.length co (ci .i64 os) 3 1, blk t [.int .i64 v, .slice D ds.length cd, .slice B bs.length cb] 72, row D ds.length cd (ci .i64 ds) 3 1, row B bs.length cb (ci .i64 bs) 3 1] := H_
        clear H_
        refine ql (.bool true) (by kernel_rfl) (by kernel_rfl) ?_
        refine wpList_nil ?_
        refine x_then ?_
        refine wp_seq ?_
        refine wp_region_lit ?_
        refine ql (.slice Ao os.length co) (by kernel_rfl) (by kernel_rfl) ?_
        refine ql (.int .i64 (rdI bs u)) (by kernel_rfl) (by kernel_rfl) ?_
        refine kl HS 1 [.int .i64 (rdI bs u)] 3 1 (by kernel_rfl) (by kernel_rfl) rfl (by decide) ?_
        intro g16 W17 H_
        replace HS : St W (owns [blk gc [.int .i64 0, .int .i64 0, .int .i64 0, .int .i64 0, .int .i64 0, .int .i64 0, .int .i64 k0] tc]) W17 [row (some ⟨g16, 0, none⟩) 1 1 (ci .i64 ([rdI bs u])) 3 1, blk g13 [.int .i64 ((gx arcs (rdI bs u)).1), .int .i64 ((gx arcs (rdI bs u)).2)] 35, blk gc [.int .i64 0, .int .i64 0, .int .i64 0, .int .i64 0, .int .i64 0, .int .i64 0, .int .i64 (k0 + (((kc + 1 : Nat) : Nat) : Int))] tc, row Ao os.length co (ci .i64 os) 3 1, blk t [.int .i64 v, .slice D ds.length cd, .slice B bs.length cb] 72, row D ds.length cd (ci .i64 ds) 3 1, row B bs.length cb (ci .i64 bs) 3 1] := H_.cast_ (by kernel_rfl)
        clear H_
        obtain ⟨xs21, xs21_⟩ : ∃ z_ : List Int, z_ = os ++ ([rdI bs u]) := ⟨_, rfl⟩
        have xs21l : xs21.length = os.length + 1 := by rw [xs21_, List.length_append] <;> (try simp only [List.length_cons, List.length_nil]) <;> omega
        refine ka1 HS 3 rfl (Src.of_row HS (i := 0) rfl ci_one) [.int .i64 0] 8 xs21.length (ci .i64 xs21) (by omega) (by rw [xs21_, ci_app]) (by kernel_rfl) (by kernel_rfl) (by kernel_rfl) Try.underlying28 (by kernel_rfl) (by kernel_rfl) (by kernel_rfl) (by kernel_rfl) (by decide) (by omega) (by omega) ?_
        intro A18 c19 W20 H_
        replace HS : St W (owns [blk gc [.int .i64 0, .int .i64 0, .int .i64 0, .int .i64 0, .int .i64 0, .int .i64 0, .int .i64 k0] tc]) W20 [row (some ⟨g16, 0, none⟩) 1 1 (ci .i64 ([rdI bs u])) 3 1, blk g13 [.int .i64 ((gx arcs (rdI bs u)).1), .int .i64 ((gx arcs (rdI bs u)).2)] 35, blk gc [.int .i64 0, .int .i64 0, .int .i64 0, .int .i64 0, .int .i64 0, .int .i64 0, .int .i64 (k0 + (((kc + 1 : Nat) : Nat) : Int))] tc, row A18 xs21.length c19 (ci .i64 xs21) 3 1, blk t [.int .i64 v, .slice D ds.length cd, .slice B bs.length cb] 72, row D ds.length cd (ci .i64 ds) 3 1, row B bs.length cb (ci .i64 bs) 3 1] := H_
        clear H_
        refine ql (.slice A18 xs21.length c19) (by kernel_rfl) (by kernel_rfl) ?_
        refine wpList_nil ?_
        refine x_then ?_
        refine wp_region_lit ?_
        refine ql (.pointer (some ⟨g13, 0, none⟩)) (by kernel_rfl) (by kernel_rfl) ?_
        refine ql (.int .i64 ((gx arcs (rdI bs u)).1)) (by kernel_rfl) (R_load (p := ⟨g13, 0, none⟩) (by kernel_rfl) (by kernel_rfl) (by kernel_rfl) (HS.cell (i := 1) (j := 0) rfl rfl)) ?_
        refine ql (.int .i64 ((gx arcs (rdI bs u)).1)) (by kernel_rfl) (by kernel_rfl) ?_
        refine wpList_nil ?_
        refine x_inb ?_
        replace HS : St W (owns [blk gc [.int .i64 0, .int .i64 0, .int .i64 0, .int .i64 0, .int .i64 0, .int .i64 0, .int .i64 k0] tc]) W20 [row A18 xs21.length c19 (ci .i64 xs21) 3 1, blk t [.int .i64 v, .slice D ds.length cd, .slice B bs.length cb] 72, row D ds.length cd (ci .i64 ds) 3 1, row B bs.length cb (ci .i64 bs) 3 1, blk gc [.int .i64 0, .int .i64 0, .int .i64 0, .int .i64 0, .int .i64 0, .int .i64 0, .int .i64 (k0 + (((kc + 1 : Nat) : Nat) : Int))] tc] := St.tail (F := [row (some ⟨g16, 0, none⟩) 1 1 (ci .i64 ([rdI bs u])) 3 1, blk g13 [.int .i64 ((gx arcs (rdI bs u)).1), .int .i64 ((gx arcs (rdI bs u)).2)] 35]) (HS.perm (perm_ [0, 1, 3, 4, 5, 6, 2] (by kernel_rfl) rfl))
        have hst := rl_step (os := os) hpos p4
        refine x_then ?_
        exact ⟨(rdI ds ((gx arcs (rdI bs u)).1)).toNat, by omega, (fun k_ : Nat => List.getD [.pointer (some ⟨g, 0, none⟩), .int .i64 v, .int .i64 ((gx arcs (rdI bs u)).1), .pointer (some ⟨gc, 0, none⟩), undef, undef, undef, undef, .slice none 0 0, .bool false, .pointer (some ⟨t, 0, none⟩), .slice A18 xs21.length c19, .int .i64 (rdI bs u), .pointer (some ⟨g13, 0, none⟩), .bool true, .pointer (some ⟨g, 0, none⟩), .int .i64 v, .pointer (some ⟨gc, 0, none⟩), .pointer (some ⟨t, 0, none⟩), .pointer (some ⟨t, 0, none⟩), .int .i64 t0, .int .i64 (rdI ds t0), .bool false, .int .i64 u, .int .i64 v, .bool true, .pointer (some ⟨gc, 0, none⟩), .tuple #[], .pointer (some ⟨t, 0, none⟩), .int .i64 u, .int .i64 (rdI bs u), .tuple #[.agg #[.int .i64 ((gx arcs (rdI bs u)).1), .int .i64 ((gx arcs (rdI bs u)).2)], .bool true], .pointer (some ⟨g, 0, none⟩), .int .i64 (rdI bs u), .tuple #[.agg #[.int .i64 ((gx arcs (rdI bs u)).1), .int .i64 ((gx arcs (rdI bs u)).2)], .bool true], .agg #[.int .i64 ((gx arcs (rdI bs u)).1), .int .i64 ((gx arcs (rdI bs u)).2)], .bool true, .slice Ao os.length co, .int .i64 (rdI bs u), .slice (some ⟨g16, 0, none⟩) 1 1, .slice A18 xs21.length c19, .pointer (some ⟨g13, 0, none⟩), .int .i64 ((gx arcs (rdI bs u)).1), undef, undef, undef] k_ undef), A18, c19, xs21, (gx arcs (rdI bs u)).1, (kc + 1), congrArg Fr (by kernel_rfl), rfl, hfi.1, hfi.2.1, by omega, by rw [hO, hst, xs21_], by omega, by omega, HS⟩
  · skip
    refine (tdist_no t D B cd cb ds bs _ t0 (HS.cell (i := 0) (j := 1) rfl rfl) (HS.cell (i := 0) (j := 2) rfl rfl) (Rd.row HS (i := 1) rfl) (Rd.row HS (i := 2) rfl) (by omega) (by omega)).mono ?_
    rintro e W22 ⟨rfl, H_⟩
    refine ⟨_, rfl, ?_⟩
    replace HS : St W (owns [blk gc [.int .i64 0, .int .i64 0, .int .i64 0, .int .i64 0, .int .i64 0, .int .i64 0, .int .i64 k0] tc]) W22 [blk t [.int .i64 v, .slice D ds.length cd, .slice B bs.length cb] 72, row D ds.length cd (ci .i64 ds) 3 1, row B bs.length cb (ci .i64 bs) 3 1, blk gc [.int .i64 0, .int .i64 0, .int .i64 0, .int .i64 0, .int .i64 0, .int .i64 0, .int .i64 (k0 + ((k : Nat) : Int))] tc] := HS.join (F := []) (G := []) H_
    clear H_
    refine ql (.bool true) (by kernel_rfl) (R_beq (b := decide ((-1 : Int) < 0)) (by kernel_rfl) (by decide)) ?_
    refine wpList_nil ?_
    refine x_then ?_
    refine wp_cond_true (by kernel_rfl) ?_
    refine wp_seq ?_
    refine wp_region_lit ?_
    refine ql (.slice none 0 0) (by kernel_rfl) (by kernel_rfl) ?_
    refine ql (.bool false) (by kernel_rfl) (by kernel_rfl) ?_
    refine wpList_nil ?_
    refine x_then ?_
    refine wp_ret ?_
    refine x_thenR ?_
    refine ret_ (.tuple #[.slice none 0 0, .bool false]) (by kernel_rfl) ?_
    replace HS := HS.drop1
    replace HS := HS.drop1
    replace HS := HS.drop1
    exact ⟨ds, bs, k, hD, hK, by omega, .inr ⟨by omega, rfl, HS⟩⟩


set_option maxRecDepth 100000 in
set_option maxHeartbeats 1000000 in
theorem PathShort_walk (n v t0 : Int) (A : Option Addr) (c : Nat) (arcs : List (Int × Int)) (W : World) (hr : Rd W A (cf arcC arcs)) : Calls Try.prog 9 #[.int .i64 n, .slice A arcs.length c, .int .i64 v, .int .i64 t0] W fun e W' => e = .returned (.bool true) ∧ St W (owns []) W' [] := by
  have HS : St W (owns []) W [] := St.start W _
  refine calls_enter ((.int .i64 n) :: (.slice A arcs.length c) :: (.int .i64 v) :: (.int .i64 t0) :: undef :: undef :: undef :: undef :: undef :: undef :: undef :: undef :: undef :: undef :: undef :: undef :: undef :: undef :: undef :: undef :: undef :: undef :: undef :: undef :: undef :: undef :: undef :: undef :: undef :: undef :: undef :: undef :: undef :: undef :: undef :: undef :: undef :: undef :: undef :: undef :: undef :: undef :: undef :: undef :: undef :: undef :: undef :: undef :: undef :: undef :: undef :: undef :: undef :: undef :: undef :: undef :: undef :: undef :: undef :: undef :: undef :: undef :: undef :: undef :: undef :: undef :: undef :: undef :: undef :: undef :: undef :: undef :: undef :: undef :: undef :: undef :: undef :: undef :: undef :: undef :: undef :: undef :: undef :: undef :: undef :: undef :: undef :: undef :: undef :: undef :: undef :: undef :: undef :: undef :: undef :: undef :: undef :: undef :: undef :: undef :: undef :: undef :: undef :: undef :: undef :: undef :: undef :: undef :: undef :: undef :: undef :: undef :: undef :: undef :: undef :: undef :: undef :: undef :: undef :: undef :: undef :: undef :: undef :: undef :: undef :: undef :: undef :: undef :: undef :: undef :: undef :: undef :: undef :: undef :: undef :: undef :: undef :: undef :: []) Try.func9 rfl (by kernel_rfl) ?_
  refine wp_seq ?_
  refine wp_region_lit ?_
  refine ql (.bool false) (by kernel_rfl) (by kernel_rfl) ?_
  refine wpList_nil ?_
  refine x_then ?_
  refine wp_seq ?_
  refine wp_seq ?_
  refine wp_region_lit ?_
  refine ql (.int .i64 n) (by kernel_rfl) (by kernel_rfl) ?_
  by_cases hc1 : n > (6 : Int)
  · skip
    refine ql (.bool true) (by kernel_rfl) (R_bool (p := n > (6 : Int)) (by kernel_rfl) (hc1)) ?_
    refine ql (.bool true) (by kernel_rfl) (by kernel_rfl) ?_
    refine qln (by kernel_rfl) ?_
    refine qln (by kernel_rfl) ?_
    refine qln (by kernel_rfl) ?_
    refine ql (.bool true) (by kernel_rfl) (by kernel_rfl) ?_
    refine wpList_nil ?_
    refine x_then ?_
    refine wp_cond_true (by kernel_rfl) ?_
    refine wp_seq ?_
    refine wp_region_lit ?_
    refine qc (f := 40) (args := #[]) (by kernel_rfl) (R_call #[] Try.func40 (by kernel_rfl) (by kernel_rfl) (by kernel_rfl)) ?_
    refine (awake14 _).mono ?_
    rintro e W2 ⟨rfl, H_⟩
    refine ⟨_, rfl, ?_⟩
    replace HS : St W (owns []) W2 [] := HS.join (F := []) (G := []) H_
    clear H_
    refine ql (.bool true) (by kernel_rfl) (by kernel_rfl) ?_
    refine wpList_nil ?_
    refine x_then ?_
    refine wp_ret ?_
    refine x_thenR ?_
    refine ret_ (.bool true) (by kernel_rfl) ?_
    exact ⟨rfl, HS⟩
  · skip
    refine ql (.bool false) (by kernel_rfl) (R_nbool (p := n > (6 : Int)) (by kernel_rfl) (hc1)) ?_
    refine ql (.bool false) (by kernel_rfl) (by kernel_rfl) ?_
    refine ql (.slice A arcs.length c) (by kernel_rfl) (by kernel_rfl) ?_
    refine ql (.int .i64 (arcs.length : Int)) (by kernel_rfl) (by kernel_rfl) ?_
    by_cases hc3 : (arcs.length : Int) > (10 : Int)
    · skip
      refine ql (.bool true) (by kernel_rfl) (R_bool (p := (arcs.length : Int) > (10 : Int)) (by kernel_rfl) (hc3)) ?_
      refine ql (.bool true) (by kernel_rfl) (by kernel_rfl) ?_
      refine wpList_nil ?_
      refine x_then ?_
      refine wp_cond_true (by kernel_rfl) ?_
      refine wp_seq ?_
      refine wp_region_lit ?_
      refine qc (f := 40) (args := #[]) (by kernel_rfl) (R_call #[] Try.func40 (by kernel_rfl) (by kernel_rfl) (by kernel_rfl)) ?_
      refine (awake14 _).mono ?_
      rintro e W4 ⟨rfl, H_⟩
      refine ⟨_, rfl, ?_⟩
      replace HS : St W (owns []) W4 [] := HS.join (F := []) (G := []) H_
      clear H_
      refine ql (.bool true) (by kernel_rfl) (by kernel_rfl) ?_
      refine wpList_nil ?_
      refine x_then ?_
      refine wp_ret ?_
      refine x_thenR ?_
      refine ret_ (.bool true) (by kernel_rfl) ?_
      exact ⟨rfl, HS⟩
    · skip
      refine ql (.bool false) (by kernel_rfl) (R_nbool (p := (arcs.length : Int) > (10 : Int)) (by kernel_rfl) (hc3)) ?_
      refine ql (.bool false) (by kernel_rfl) (by kernel_rfl) ?_
      refine wpList_nil ?_
      refine x_then ?_
      refine wp_cond_false (by kernel_rfl) ?_
      refine wp_skip ?_
      refine x_then ?_
      refine wp_seq ?_
      refine wp_region_lit ?_
      refine ql (.int .i64 n) (by kernel_rfl) (by kernel_rfl) ?_
      refine ql (.slice A arcs.length c) (by kernel_rfl) (by kernel_rfl) ?_
      refine qc (f := 13) (args := #[.int .i64 n, .slice A arcs.length c]) (by kernel_rfl) (R_call #[.int .i64 n, .slice A arcs.length c] Try.func13 (by kernel_rfl) (by kernel_rfl) (by kernel_rfl)) ?_
      refine (of_calls n _ _ arcs _ (hr.old0 HS) (by first | omega | (rw [List.length_map]; omega))).mono ?_
      rintro e W5 (⟨hc, g, N, rfl, rfl, H_, hG⟩ | ⟨hc, rfl, H_⟩)
      · refine ⟨_, rfl, ?_⟩
        replace HS : St W (owns []) W5 [] := HS.join (F := []) (G := []) H_
        clear H_
        have HB6 := HS
        replace hr := hr.below (HB6.kept.below owns_nil)
        clear HS
        have HS : St W5 (owns []) W5 [] := St.start _ _
        have hFF := hG.fine
        refine ql (.tuple #[.pointer (some ⟨g, 0, none⟩), .int .i64 0]) (by kernel_rfl) (by kernel_rfl) ?_
        refine ql (.pointer (some ⟨g, 0, none⟩)) (by kernel_rfl) (by kernel_rfl) ?_
        refine ql (.int .i64 0) (by kernel_rfl) (by kernel_rfl) ?_
        refine ql (.pointer (some ⟨g, 0, none⟩)) (by kernel_rfl) (by kernel_rfl) ?_
        refine ql (.int .i64 0) (by kernel_rfl) (by kernel_rfl) ?_
        refine wpList_nil ?_
        refine x_then ?_
        refine wp_seq ?_
        refine wp_seq ?_
        refine wp_region_lit ?_
        refine ql (.int .i64 0) (by kernel_rfl) (by kernel_rfl) ?_
        refine ql (.bool false) (by kernel_rfl) (R_beq (b := ((0 : Int) != 0)) (by kernel_rfl) (by decide)) ?_
        refine wpList_nil ?_
        refine x_then ?_
        refine wp_cond_false (by kernel_rfl) ?_
        refine wp_skip ?_
        refine x_then ?_
        refine wp_seq ?_
        refine wp_region_lit ?_
        refine kb HS [.int .i64 0, .int .i64 0, .int .i64 0, .int .i64 0, .int .i64 0, .int .i64 0, .int .i64 0] 51 (fun g => .pointer (some ⟨g, 0, none⟩)) (by kernel_rfl) (by kernel_rfl) ?_
        intro g7 W8 H_
        replace HS : St W5 (owns []) W8 [blk g7 [.int .i64 0, .int .i64 0, .int .i64 0, .int .i64 0, .int .i64 0, .int .i64 0, .int .i64 0] 51] := H_
        clear H_
        refine wpList_nil ?_
        refine x_then ?_
        refine wp_seq ?_
        refine wp_region_lit ?_
        refine ql (.pointer (some ⟨g, 0, none⟩)) (by kernel_rfl) (by kernel_rfl) ?_
        refine ql (.int .i64 v) (by kernel_rfl) (by kernel_rfl) ?_
        refine ql (.int .i64 t0) (by kernel_rfl) (by kernel_rfl) ?_
        refine qc (f := 41) (args := #[.pointer (some ⟨g, 0, none⟩), .int .i64 v, .int .i64 t0, .pointer (some ⟨g7, 0, none⟩)]) (by kernel_rfl) (R_call #[.pointer (some ⟨g, 0, none⟩), .int .i64 v, .int .i64 t0, .pointer (some ⟨g7, 0, none⟩)] Try.func41 (by kernel_rfl) (by kernel_rfl) (by kernel_rfl)) ?_
        refine (shortC g N arcs v g7 51 0 W5 _ hG (HS.kept.below owns_nil) (St.newge HS (i := 0) rfl rfl) (St.focus (F := [blk g7 [.int .i64 0, .int .i64 0, .int .i64 0, .int .i64 0, .int .i64 0, .int .i64 0, .int .i64 0] 51]) HS) (by omega) (by omega) (by omega) (by omega) t0).mono ?_
        rintro e W9 ⟨ds, bs, kt, hDS, hBK, hkt, ⟨ht, A1, c1, rfl, H_⟩ | ⟨ht, rfl, H_⟩⟩
        · refine ⟨_, rfl, ?_⟩
          replace HS : St W5 (owns []) W9 [row A1 ((rl arcs bs (rdI ds t0).toNat t0).reverse.length) c1 (ci .i64 ((rl arcs bs (rdI ds t0).toNat t0).reverse)) 3 1, blk g7 [.int .i64 0, .int .i64 0, .int .i64 0, .int .i64 0, .int .i64 0, .int .i64 0, .int .i64 (0 + ((kt : Nat) : Int))] 51] := HS.join (F := [blk g7 [.int .i64 0, .int .i64 0, .int .i64 0, .int .i64 0, .int .i64 0, .int .i64 0, .int .i64 0] 51]) (G := [row A1 ((rl arcs bs (rdI ds t0).toNat t0).reverse.length) c1 (ci .i64 ((rl arcs bs (rdI ds t0).toNat t0).reverse)) 3 1, blk g7 [.int .i64 0, .int .i64 0, .int .i64 0, .int .i64 0, .int .i64 0, .int .i64 0, .int .i64 (0 + ((kt : Nat) : Int))] 51]) H_
          clear H_
          have hrll := rl_len arcs bs (rdI ds t0).toNat t0
          have hdl := hDS.ld
          have hlv := lvl hDS.ld hDS.ze hDS.pr hFF ht.1 ht.2.1
          have hll : (rl arcs bs (rdI ds t0).toNat t0).reverse.length = (rdI ds t0).toNat := by rw [List.length_reverse, hrll]
          have hvin := v_in hFF hDS ht.1 ht.2.1 ht.2.2
          have hc := Rd.ofBlk HS (i := 1) rfl
          have HB10 := HS
          replace hr := hr.below (HB10.kept.below owns_nil)
          replace hG := hG.below (HB10.kept.below owns_nil)
          have hr11 := Rd.row HB10 (i := 0) rfl
          clear HS
          have HS : St W9 (owns []) W9 [] := St.start _ _
          refine ql (.tuple #[.slice A1 ((rl arcs bs (rdI ds t0).toNat t0).reverse.length) c1, .bool true]) (by kernel_rfl) (by kernel_rfl) ?_
          refine ql (.slice A1 ((rl arcs bs (rdI ds t0).toNat t0).reverse.length) c1) (by kernel_rfl) (by kernel_rfl) ?_
          refine ql (.bool true) (by kernel_rfl) (by kernel_rfl) ?_
          refine ql (.slice A1 ((rl arcs bs (rdI ds t0).toNat t0).reverse.length) c1) (by kernel_rfl) (by kernel_rfl) ?_
          refine ql (.bool true) (by kernel_rfl) (by kernel_rfl) ?_
          refine wpList_nil ?_
          refine x_then ?_
          refine wp_seq ?_
          refine wp_region_lit ?_
          refine ql (.int .i64 (-1)) (by kernel_rfl) (by kernel_rfl) ?_
          refine wpList_nil ?_
          refine x_then ?_
          refine wp_seq ?_
          refine wp_seq ?_
          refine wp_region_lit ?_
          refine ql (.int .i64 t0) (by kernel_rfl) (by kernel_rfl) ?_
          refine ql (.bool true) (by kernel_rfl) (R_bool (p := t0 ≥ (0 : Int)) (by kernel_rfl) (by omega)) ?_
          refine ql (.bool true) (by kernel_rfl) (by kernel_rfl) ?_
          refine ql (.int .i64 t0) (by kernel_rfl) (by kernel_rfl) ?_
          refine ql (.int .i64 (N : Int)) (by kernel_rfl) (by kernel_rfl) ?_
          refine ql (.bool true) (by kernel_rfl) (R_bool (p := t0 < (N : Int)) (by kernel_rfl) (by omega)) ?_
          refine ql (.bool true) (by kernel_rfl) (by kernel_rfl) ?_
          refine wpList_nil ?_
          refine x_then ?_
          refine wp_cond_true (by kernel_rfl) ?_
          refine wp_region_lit ?_
          refine ql (.int .i64 (N : Int)) (by kernel_rfl) (by kernel_rfl) ?_
          refine ql (.slice A arcs.length c) (by kernel_rfl) (by kernel_rfl) ?_
          refine ql (.int .i64 v) (by kernel_rfl) (by kernel_rfl) ?_
          refine qc (f := 33) (args := #[.int .i64 (N : Int), .slice A arcs.length c, .int .i64 v]) (by kernel_rfl) (R_call #[.int .i64 (N : Int), .slice A arcs.length c, .int .i64 v] Try.func33 (by kernel_rfl) (by kernel_rfl) (by kernel_rfl)) ?_
          refine (rdist N _ _ arcs _ (hr.old0 HS) (by omega) v hFF (by omega) ds hDS).mono ?_
          rintro e W14 ⟨A12, c13, rfl, H_⟩
          refine ⟨_, rfl, ?_⟩
          replace HS : St W9 (owns []) W14 [row A12 ds.length c13 (ci .i64 ds) 3 1] := HS.join (F := []) (G := [row A12 ds.length c13 (ci .i64 ds) 3 1]) H_
          clear H_
          refine ql (.int .i64 t0) (by kernel_rfl) (by kernel_rfl) ?_
          obtain ⟨g15, rfl⟩ := St.rsome HS (i := 0) rfl (by omega)
          refine ql (.pointer (some ⟨g15, t0.toNat, none⟩)) (by kernel_rfl) (R_index1 (k := .i64) (g := g15) (n := ds.length) (c := c13) (i := t0) (by kernel_rfl) (by kernel_rfl) Try.underlying28 (by kernel_rfl) (by omega) (by omega)) ?_
          refine ql (.int .i64 (rdI ds t0)) (by kernel_rfl) (R_load (p := ⟨g15, t0.toNat, none⟩) (by kernel_rfl) (by kernel_rfl) (by kernel_rfl) (HS.rcell (i := 0) rfl (ci_rd (i := t0) (by omega) (by omega)))) ?_
          refine ql (.int .i64 (rdI ds t0)) (by kernel_rfl) (by kernel_rfl) ?_
          refine wpList_nil ?_
          refine x_then ?_
          refine wp_seq ?_
          refine wp_seq ?_
          refine wp_region_lit ?_
          refine ql (.bool true) (by kernel_rfl) (by kernel_rfl) ?_
          refine ql (.int .i64 (rdI ds t0)) (by kernel_rfl) (by kernel_rfl) ?_
          refine ql (.bool true) (by kernel_rfl) (R_bool (p := (rdI ds t0) ≥ (0 : Int)) (by kernel_rfl) (by omega)) ?_
          refine ql (.bool false) (by kernel_rfl) (by kernel_rfl) ?_
          refine ql (.bool false) (by kernel_rfl) (by kernel_rfl) ?_
          refine ql (.slice A1 ((rl arcs bs (rdI ds t0).toNat t0).reverse.length) c1) (by kernel_rfl) (by kernel_rfl) ?_
          refine ql (.int .i64 ((rl arcs bs (rdI ds t0).toNat t0).reverse.length : Int)) (by kernel_rfl) (by kernel_rfl) ?_
          by_cases hc16 : ((rl arcs bs (rdI ds t0).toNat t0).reverse.length : Int) > (0 : Int)
          · skip
            refine ql (.bool true) (by kernel_rfl) (R_bool (p := ((rl arcs bs (rdI ds t0).toNat t0).reverse.length : Int) > (0 : Int)) (by kernel_rfl) (hc16)) ?_
            refine ql (.bool true) (by kernel_rfl) (by kernel_rfl) ?_
            refine ql (.bool true) (by kernel_rfl) (by kernel_rfl) ?_
            refine ql (.bool false) (by kernel_rfl) (by kernel_rfl) ?_
            refine ql (.bool false) (by kernel_rfl) (by kernel_rfl) ?_
            refine ql (.bool false) (by kernel_rfl) (by kernel_rfl) ?_
            refine ql (.bool false) (by kernel_rfl) (by kernel_rfl) ?_
            refine qc (f := 37) (args := #[.pointer (some ⟨g7, 0, none⟩), .int .i64 6]) (by kernel_rfl) (R_call #[.pointer (some ⟨g7, 0, none⟩), .int .i64 6] Try.func37 (by kernel_rfl) (by kernel_rfl) (by kernel_rfl)) ?_
            refine (cof_6 g7 (0 + ((kt : Nat) : Int)) _ (hc.old0 HS)).mono ?_
            rintro e W17 ⟨rfl, H_⟩
            refine ⟨_, rfl, ?_⟩
            replace HS : St W9 (owns []) W17 [row (some ⟨g15, 0, none⟩) ds.length c13 (ci .i64 ds) 3 1] := HS.join (F := []) (G := []) H_
            clear H_
            refine ql (.int .i64 (N : Int)) (by kernel_rfl) (by kernel_rfl) ?_
            refine ql (.slice A arcs.length c) (by kernel_rfl) (by kernel_rfl) ?_
            refine ql (.int .i64 (arcs.length : Int)) (by kernel_rfl) (by kernel_rfl) ?_
            refine ql (.int .i64 ((N : Int) + (arcs.length : Int))) (by kernel_rfl) (R_int (by kernel_rfl) (w64 (by omega))) ?_
            refine ql (.int .i64 (3 * ((N : Int) + (arcs.length : Int)))) (by kernel_rfl) (R_int (by kernel_rfl) (w64 (by omega))) ?_
            refine ql (.bool false) (by kernel_rfl) (R_nbool (p := (0 + ((kt : Nat) : Int)) > (3 * ((N : Int) + (arcs.length : Int)))) (by kernel_rfl) (by omega)) ?_
            refine ql (.bool false) (by kernel_rfl) (by kernel_rfl) ?_
            refine wpList_nil ?_
            refine x_then ?_
            refine wp_cond_false (by kernel_rfl) ?_
            refine wp_skip ?_
            refine x_then ?_
            refine wp_seq ?_
            refine wp_seq ?_
            refine wp_region_lit ?_
            refine ql (.bool true) (by kernel_rfl) (by kernel_rfl) ?_
            refine ql (.bool false) (by kernel_rfl) (by kernel_rfl) ?_
            refine wpList_nil ?_
            refine x_then ?_
            refine wp_cond_false (by kernel_rfl) ?_
            refine wp_skip ?_
            refine x_then ?_
            refine wp_seq ?_
            refine wp_region_lit ?_
            refine ql (.int .i64 (N : Int)) (by kernel_rfl) (by kernel_rfl) ?_
            refine ql (.slice A arcs.length c) (by kernel_rfl) (by kernel_rfl) ?_
            refine ql (.int .i64 v) (by kernel_rfl) (by kernel_rfl) ?_
            refine ql (.int .i64 t0) (by kernel_rfl) (by kernel_rfl) ?_
            refine ql (.int .i64 (rdI ds t0)) (by kernel_rfl) (by kernel_rfl) ?_
            refine qc (f := 43) (args := #[.int .i64 (N : Int), .slice A arcs.length c, .int .i64 v, .int .i64 t0, .int .i64 (rdI ds t0)]) (by kernel_rfl) (R_call #[.int .i64 (N : Int), .slice A arcs.length c, .int .i64 v, .int .i64 t0, .int .i64 (rdI ds t0)] Try.func43 (by kernel_rfl) (by kernel_rfl) (by kernel_rfl)) ?_
            refine (rshortest N _ _ arcs v t0 ds bs _ (hr.old0 HS) (by omega) (by omega) hFF hDS hBK ht).mono ?_
            rintro e W18 ⟨Aq, cq, os, pz, rfl, H_, hos, hoq⟩
            refine ⟨_, rfl, ?_⟩
            replace HS : St W9 (owns []) W18 [row Aq os.length cq (cp os) 28 1, pl pz, row (some ⟨g15, 0, none⟩) ds.length c13 (ci .i64 ds) 3 1] := HS.join (F := []) (G := [row Aq os.length cq (cp os) 28 1, pl pz]) H_
            clear H_
            have hwl : os.length = cN arcs v (rdI ds t0).toNat t0 := by rw [← ft_len, ← hos, List.length_map]
            have hnc := nwc_count hFF hDS hvin.1 hvin.2 (by omega) (rdI ds t0).toNat t0 (by omega) ht.1 ht.2.1 (by omega)
            have hin : ∀ p ∈ os, p.2 ∈ ft arcs v t0 (WL arcs v (rdI ds t0).toNat) := fun p hp => by rw [← hos]; exact List.mem_map.2 ⟨p, hp, rfl⟩
            have hGo : ∃ p ∈ os, p.2 = (rl arcs bs (rdI ds t0).toNat t0).reverse := by have h8 := ft_has hFF hDS hBK ht.1 ht.2.1 ht.2.2; rw [← hos] at h8; obtain ⟨p, hp, e⟩ := List.mem_map.1 h8; exact ⟨p, hp, e⟩
            have hmin : ∀ p ∈ os, p.2 = (rl arcs bs (rdI ds t0).toNat t0).reverse ∨ lx (rl arcs bs (rdI ds t0).toNat t0).reverse.reverse p.2.reverse < 0 := fun p hp => ft_least hFF hDS hBK hvin.1 hvin.2 ht.1 ht.2.1 ht.2.2 (hin p hp)
            have hcl := cN_le arcs v (rdI ds t0).toNat t0
            have hwn := wl_len (v := v) (show arcs.length ≤ 10 by omega) (rdI ds t0).toNat
            have hp10 : 10 ^ (rdI ds t0).toNat ≤ 10 ^ 6 := Nat.pow_le_pow_right (by omega) (by omega)
            have hol : os.length ≤ 1000000 := by omega
            have hop : 0 < os.length := by obtain ⟨p, hp, _⟩ := hGo; exact List.length_pos_of_mem hp
            have hpl : ∀ p ∈ os, p.2.length ≤ 10 := fun p hp => by have h9 := hin p hp; unfold ft at h9; have h8 := (wl_sound _ _ (List.mem_filter.1 h9).1).1; omega
            refine ql (.slice Aq os.length cq) (by kernel_rfl) (by kernel_rfl) ?_
            refine wpList_nil ?_
            refine x_then ?_
            refine wp_seq ?_
            refine wp_region_lit ?_
            refine ql (.slice Aq os.length cq) (by kernel_rfl) (by kernel_rfl) ?_
            refine ql (.int .i64 (os.length : Int)) (by kernel_rfl) (by kernel_rfl) ?_
            refine ql (.bool true) (by kernel_rfl) (R_bool (p := (os.length : Int) > (0 : Int)) (by kernel_rfl) (by omega)) ?_
            refine ql (.bool true) (by kernel_rfl) (by kernel_rfl) ?_
            refine ql (.slice A1 ((rl arcs bs (rdI ds t0).toNat t0).reverse.length) c1) (by kernel_rfl) (by kernel_rfl) ?_
            refine ql (.slice Aq os.length cq) (by kernel_rfl) (by kernel_rfl) ?_
            refine qc (f := 44) (args := #[.slice Aq os.length cq]) (by kernel_rfl) (R_call #[.slice Aq os.length cq] Try.func44 (by kernel_rfl) (by kernel_rfl) (by kernel_rfl)) ?_
            refine (rleast _ _ os (rl arcs bs (rdI ds t0).toNat t0).reverse _ (Rd.row HS (i := 0) rfl) (fun p hp => (HS.get (i := 1) rfl : ∀ q ∈ pz, Rd W18 q.1.1 (ci .i64 q.2)) p (hoq p hp)) hpl hol hmin hGo).mono ?_
            rintro e W19 ⟨A7, c7, rfl, hA7, H_⟩
            refine ⟨_, rfl, ?_⟩
            replace HS : St W9 (owns []) W19 [row Aq os.length cq (cp os) 28 1, pl pz, row (some ⟨g15, 0, none⟩) ds.length c13 (ci .i64 ds) 3 1] := HS.join (F := []) (G := []) H_
            clear H_
            refine qc (f := 23) (args := #[.slice A1 ((rl arcs bs (rdI ds t0).toNat t0).reverse.length) c1, .slice A7 ((rl arcs bs (rdI ds t0).toNat t0).reverse.length) c7]) (by kernel_rfl) (R_call #[.slice A1 ((rl arcs bs (rdI ds t0).toNat t0).reverse.length) c1, .slice A7 ((rl arcs bs (rdI ds t0).toNat t0).reverse.length) c7] Try.func23 (by kernel_rfl) (by kernel_rfl) (by kernel_rfl)) ?_
            refine (same_eq _ _ _ _ (rl arcs bs (rdI ds t0).toNat t0).reverse (rl arcs bs (rdI ds t0).toNat t0).reverse _ rfl (hr11.old0 HS) (pl_rd (HS.get (i := 1) rfl) (hoq _ hA7)) (by omega)).mono ?_
            rintro e W20 ⟨rfl, H_⟩
            refine ⟨_, rfl, ?_⟩
            replace HS : St W9 (owns []) W20 [row Aq os.length cq (cp os) 28 1, pl pz, row (some ⟨g15, 0, none⟩) ds.length c13 (ci .i64 ds) 3 1] := HS.join (F := []) (G := []) H_
            clear H_
            refine ql (.bool true) (by kernel_rfl) (by kernel_rfl) ?_
            refine ql (.bool true) (by kernel_rfl) (by kernel_rfl) ?_
            refine ql (.pointer (some ⟨g, 0, none⟩)) (by kernel_rfl) (by kernel_rfl) ?_
            refine ql (.int .i64 v) (by kernel_rfl) (by kernel_rfl) ?_
            refine ql (.int .i64 t0) (by kernel_rfl) (by kernel_rfl) ?_
            refine qc (f := 42) (args := #[.pointer (some ⟨g, 0, none⟩), .int .i64 v, .int .i64 t0]) (by kernel_rfl) (R_call #[.pointer (some ⟨g, 0, none⟩), .int .i64 v, .int .i64 t0] Try.func42 (by kernel_rfl) (by kernel_rfl) (by kernel_rfl)) ?_
            refine (count_yes g N arcs v t0 ds _ (hG.below (HS.kept.below owns_nil)) (by omega) (by omega) hDS hvin.1 hvin.2 ht).mono ?_
            rintro e W21 ⟨rfl, H_⟩
            refine ⟨_, rfl, ?_⟩
            replace HS : St W9 (owns []) W21 [row Aq os.length cq (cp os) 28 1, pl pz, row (some ⟨g15, 0, none⟩) ds.length c13 (ci .i64 ds) 3 1] := HS.join (F := []) (G := []) H_
            clear H_
            refine ql (.slice Aq os.length cq) (by kernel_rfl) (by kernel_rfl) ?_
            refine ql (.int .i64 (os.length : Int)) (by kernel_rfl) (by kernel_rfl) ?_
            refine ql (.bool true) (by kernel_rfl) (R_beq (b := (nwc arcs ds (rdI ds t0).toNat t0 == (os.length : Int))) (by kernel_rfl) (beq_t (by rw [hnc, hwl]))) ?_
            refine ql (.bool true) (by kernel_rfl) (by kernel_rfl) ?_
            refine ql (.bool true) (by kernel_rfl) (by kernel_rfl) ?_
            refine qc (f := 40) (args := #[]) (by kernel_rfl) (R_call #[] Try.func40 (by kernel_rfl) (by kernel_rfl) (by kernel_rfl)) ?_
            refine (awake14 _).mono ?_
            rintro e W22 ⟨rfl, H_⟩
            refine ⟨_, rfl, ?_⟩
            replace HS : St W9 (owns []) W22 [row Aq os.length cq (cp os) 28 1, pl pz, row (some ⟨g15, 0, none⟩) ds.length c13 (ci .i64 ds) 3 1] := HS.join (F := []) (G := []) H_
            clear H_
            refine ql (.bool true) (by kernel_rfl) (by kernel_rfl) ?_
            refine ql (.bool true) (by kernel_rfl) (by kernel_rfl) ?_
            refine wpList_nil ?_
            refine x_then ?_
            refine wp_ret ?_
            refine ret_ (.bool true) (by kernel_rfl) ?_
            replace HS : St W5 (owns []) W22 [row Aq os.length cq (cp os) 28 1, pl pz, row (some ⟨g15, 0, none⟩) ds.length c13 (ci .i64 ds) 3 1, row A1 ((rl arcs bs (rdI ds t0).toNat t0).reverse.length) c1 (ci .i64 ((rl arcs bs (rdI ds t0).toNat t0).reverse)) 3 1, blk g7 [.int .i64 0, .int .i64 0, .int .i64 0, .int .i64 0, .int .i64 0, .int .i64 0, .int .i64 (0 + ((kt : Nat) : Int))] 51] := HB10.join (F := []) (G := [row Aq os.length cq (cp os) 28 1, pl pz, row (some ⟨g15, 0, none⟩) ds.length c13 (ci .i64 ds) 3 1]) HS
            replace HS : St W (owns []) W22 [row Aq os.length cq (cp os) 28 1, pl pz, row (some ⟨g15, 0, none⟩) ds.length c13 (ci .i64 ds) 3 1, row A1 ((rl arcs bs (rdI ds t0).toNat t0).reverse.length) c1 (ci .i64 ((rl arcs bs (rdI ds t0).toNat t0).reverse)) 3 1, blk g7 [.int .i64 0, .int .i64 0, .int .i64 0, .int .i64 0, .int .i64 0, .int .i64 0, .int .i64 (0 + ((kt : Nat) : Int))] 51] := HB6.join (F := []) (G := [row Aq os.length cq (cp os) 28 1, pl pz, row (some ⟨g15, 0, none⟩) ds.length c13 (ci .i64 ds) 3 1, row A1 ((rl arcs bs (rdI ds t0).toNat t0).reverse.length) c1 (ci .i64 ((rl arcs bs (rdI ds t0).toNat t0).reverse)) 3 1, blk g7 [.int .i64 0, .int .i64 0, .int .i64 0, .int .i64 0, .int .i64 0, .int .i64 0, .int .i64 (0 + ((kt : Nat) : Int))] 51]) HS
            exact ⟨rfl, HS.tail (F := [row Aq os.length cq (cp os) 28 1, pl pz, row (some ⟨g15, 0, none⟩) ds.length c13 (ci .i64 ds) 3 1, row A1 ((rl arcs bs (rdI ds t0).toNat t0).reverse.length) c1 (ci .i64 ((rl arcs bs (rdI ds t0).toNat t0).reverse)) 3 1, blk g7 [.int .i64 0, .int .i64 0, .int .i64 0, .int .i64 0, .int .i64 0, .int .i64 0, .int .i64 (0 + ((kt : Nat) : Int))] 51])⟩
          · skip
            refine ql (.bool false) (by kernel_rfl) (R_nbool (p := ((rl arcs bs (rdI ds t0).toNat t0).reverse.length : Int) > (0 : Int)) (by kernel_rfl) (hc16)) ?_
            refine ql (.bool false) (by kernel_rfl) (by kernel_rfl) ?_
            refine qln (by kernel_rfl) ?_
            refine qln (by kernel_rfl) ?_
            refine ql (.bool false) (by kernel_rfl) (by kernel_rfl) ?_
            refine ql (.bool false) (by kernel_rfl) (by kernel_rfl) ?_
            refine ql (.bool false) (by kernel_rfl) (by kernel_rfl) ?_
            refine qc (f := 37) (args := #[.pointer (some ⟨g7, 0, none⟩), .int .i64 6]) (by kernel_rfl) (R_call #[.pointer (some ⟨g7, 0, none⟩), .int .i64 6] Try.func37 (by kernel_rfl) (by kernel_rfl) (by kernel_rfl)) ?_
            refine (cof_6 g7 (0 + ((kt : Nat) : Int)) _ (hc.old0 HS)).mono ?_
            rintro e W23 ⟨rfl, H_⟩
            refine ⟨_, rfl, ?_⟩
            replace HS : St W9 (owns []) W23 [row (some ⟨g15, 0, none⟩) ds.length c13 (ci .i64 ds) 3 1] := HS.join (F := []) (G := []) H_
            clear H_
            refine ql (.int .i64 (N : Int)) (by kernel_rfl) (by kernel_rfl) ?_
            refine ql (.slice A arcs.length c) (by kernel_rfl) (by kernel_rfl) ?_
            refine ql (.int .i64 (arcs.length : Int)) (by kernel_rfl) (by kernel_rfl) ?_
            refine ql (.int .i64 ((N : Int) + (arcs.length : Int))) (by kernel_rfl) (R_int (by kernel_rfl) (w64 (by omega))) ?_
            refine ql (.int .i64 (3 * ((N : Int) + (arcs.length : Int)))) (by kernel_rfl) (R_int (by kernel_rfl) (w64 (by omega))) ?_
            refine ql (.bool false) (by kernel_rfl) (R_nbool (p := (0 + ((kt : Nat) : Int)) > (3 * ((N : Int) + (arcs.length : Int)))) (by kernel_rfl) (by omega)) ?_
            refine ql (.bool false) (by kernel_rfl) (by kernel_rfl) ?_
            refine wpList_nil ?_
            refine x_then ?_
            refine wp_cond_false (by kernel_rfl) ?_
            refine wp_skip ?_
            refine x_then ?_
            refine wp_seq ?_
            refine wp_seq ?_
            refine wp_region_lit ?_
            refine ql (.bool true) (by kernel_rfl) (by kernel_rfl) ?_
            refine ql (.bool false) (by kernel_rfl) (by kernel_rfl) ?_
            refine wpList_nil ?_
            refine x_then ?_
            refine wp_cond_false (by kernel_rfl) ?_
            refine wp_skip ?_
            refine x_then ?_
            refine wp_seq ?_
            refine wp_region_lit ?_
            refine ql (.int .i64 (N : Int)) (by kernel_rfl) (by kernel_rfl) ?_
            refine ql (.slice A arcs.length c) (by kernel_rfl) (by kernel_rfl) ?_
            refine ql (.int .i64 v) (by kernel_rfl) (by kernel_rfl) ?_
            refine ql (.int .i64 t0) (by kernel_rfl) (by kernel_rfl) ?_
            refine ql (.int .i64 (rdI ds t0)) (by kernel_rfl) (by kernel_rfl) ?_
            refine qc (f := 43) (args := #[.int .i64 (N : Int), .slice A arcs.length c, .int .i64 v, .int .i64 t0, .int .i64 (rdI ds t0)]) (by kernel_rfl) (R_call #[.int .i64 (N : Int), .slice A arcs.length c, .int .i64 v, .int .i64 t0, .int .i64 (rdI ds t0)] Try.func43 (by kernel_rfl) (by kernel_rfl) (by kernel_rfl)) ?_
            refine (rshortest N _ _ arcs v t0 ds bs _ (hr.old0 HS) (by omega) (by omega) hFF hDS hBK ht).mono ?_
            rintro e W24 ⟨Aq, cq, os, pz, rfl, H_, hos, hoq⟩
            refine ⟨_, rfl, ?_⟩
            replace HS : St W9 (owns []) W24 [row Aq os.length cq (cp os) 28 1, pl pz, row (some ⟨g15, 0, none⟩) ds.length c13 (ci .i64 ds) 3 1] := HS.join (F := []) (G := [row Aq os.length cq (cp os) 28 1, pl pz]) H_
            clear H_
            have hwl : os.length = cN arcs v (rdI ds t0).toNat t0 := by rw [← ft_len, ← hos, List.length_map]
            have hnc := nwc_count hFF hDS hvin.1 hvin.2 (by omega) (rdI ds t0).toNat t0 (by omega) ht.1 ht.2.1 (by omega)
            have hin : ∀ p ∈ os, p.2 ∈ ft arcs v t0 (WL arcs v (rdI ds t0).toNat) := fun p hp => by rw [← hos]; exact List.mem_map.2 ⟨p, hp, rfl⟩
            have hGo : ∃ p ∈ os, p.2 = (rl arcs bs (rdI ds t0).toNat t0).reverse := by have h8 := ft_has hFF hDS hBK ht.1 ht.2.1 ht.2.2; rw [← hos] at h8; obtain ⟨p, hp, e⟩ := List.mem_map.1 h8; exact ⟨p, hp, e⟩
            have hmin : ∀ p ∈ os, p.2 = (rl arcs bs (rdI ds t0).toNat t0).reverse ∨ lx (rl arcs bs (rdI ds t0).toNat t0).reverse.reverse p.2.reverse < 0 := fun p hp => ft_least hFF hDS hBK hvin.1 hvin.2 ht.1 ht.2.1 ht.2.2 (hin p hp)
            have hcl := cN_le arcs v (rdI ds t0).toNat t0
            have hwn := wl_len (v := v) (show arcs.length ≤ 10 by omega) (rdI ds t0).toNat
            have hp10 : 10 ^ (rdI ds t0).toNat ≤ 10 ^ 6 := Nat.pow_le_pow_right (by omega) (by omega)
            have hol : os.length ≤ 1000000 := by omega
            have hop : 0 < os.length := by obtain ⟨p, hp, _⟩ := hGo; exact List.length_pos_of_mem hp
            have hpl : ∀ p ∈ os, p.2.length ≤ 10 := fun p hp => by have h9 := hin p hp; unfold ft at h9; have h8 := (wl_sound _ _ (List.mem_filter.1 h9).1).1; omega
            refine ql (.slice Aq os.length cq) (by kernel_rfl) (by kernel_rfl) ?_
            refine wpList_nil ?_
            refine x_then ?_
            refine wp_seq ?_
            refine wp_region_lit ?_
            refine ql (.slice Aq os.length cq) (by kernel_rfl) (by kernel_rfl) ?_
            refine ql (.int .i64 (os.length : Int)) (by kernel_rfl) (by kernel_rfl) ?_
            refine ql (.bool true) (by kernel_rfl) (R_bool (p := (os.length : Int) > (0 : Int)) (by kernel_rfl) (by omega)) ?_
            refine ql (.bool true) (by kernel_rfl) (by kernel_rfl) ?_
            refine ql (.slice A1 ((rl arcs bs (rdI ds t0).toNat t0).reverse.length) c1) (by kernel_rfl) (by kernel_rfl) ?_
            refine ql (.slice Aq os.length cq) (by kernel_rfl) (by kernel_rfl) ?_
            refine qc (f := 44) (args := #[.slice Aq os.length cq]) (by kernel_rfl) (R_call #[.slice Aq os.length cq] Try.func44 (by kernel_rfl) (by kernel_rfl) (by kernel_rfl)) ?_
            refine (rleast _ _ os (rl arcs bs (rdI ds t0).toNat t0).reverse _ (Rd.row HS (i := 0) rfl) (fun p hp => (HS.get (i := 1) rfl : ∀ q ∈ pz, Rd W24 q.1.1 (ci .i64 q.2)) p (hoq p hp)) hpl hol hmin hGo).mono ?_
            rintro e W25 ⟨A7, c7, rfl, hA7, H_⟩
            refine ⟨_, rfl, ?_⟩
            replace HS : St W9 (owns []) W25 [row Aq os.length cq (cp os) 28 1, pl pz, row (some ⟨g15, 0, none⟩) ds.length c13 (ci .i64 ds) 3 1] := HS.join (F := []) (G := []) H_
            clear H_
            refine qc (f := 23) (args := #[.slice A1 ((rl arcs bs (rdI ds t0).toNat t0).reverse.length) c1, .slice A7 ((rl arcs bs (rdI ds t0).toNat t0).reverse.length) c7]) (by kernel_rfl) (R_call #[.slice A1 ((rl arcs bs (rdI ds t0).toNat t0).reverse.length) c1, .slice A7 ((rl arcs bs (rdI ds t0).toNat t0).reverse.length) c7] Try.func23 (by kernel_rfl) (by kernel_rfl) (by kernel_rfl)) ?_
            refine (same_eq _ _ _ _ (rl arcs bs (rdI ds t0).toNat t0).reverse (rl arcs bs (rdI ds t0).toNat t0).reverse _ rfl (hr11.old0 HS) (pl_rd (HS.get (i := 1) rfl) (hoq _ hA7)) (by omega)).mono ?_
            rintro e W26 ⟨rfl, H_⟩
            refine ⟨_, rfl, ?_⟩
            replace HS : St W9 (owns []) W26 [row Aq os.length cq (cp os) 28 1, pl pz, row (some ⟨g15, 0, none⟩) ds.length c13 (ci .i64 ds) 3 1] := HS.join (F := []) (G := []) H_
            clear H_
            refine ql (.bool true) (by kernel_rfl) (by kernel_rfl) ?_
            refine ql (.bool true) (by kernel_rfl) (by kernel_rfl) ?_
            refine ql (.pointer (some ⟨g, 0, none⟩)) (by kernel_rfl) (by kernel_rfl) ?_
            refine ql (.int .i64 v) (by kernel_rfl) (by kernel_rfl) ?_
            refine ql (.int .i64 t0) (by kernel_rfl) (by kernel_rfl) ?_
            refine qc (f := 42) (args := #[.pointer (some ⟨g, 0, none⟩), .int .i64 v, .int .i64 t0]) (by kernel_rfl) (R_call #[.pointer (some ⟨g, 0, none⟩), .int .i64 v, .int .i64 t0] Try.func42 (by kernel_rfl) (by kernel_rfl) (by kernel_rfl)) ?_
            refine (count_yes g N arcs v t0 ds _ (hG.below (HS.kept.below owns_nil)) (by omega) (by omega) hDS hvin.1 hvin.2 ht).mono ?_
            rintro e W27 ⟨rfl, H_⟩
            refine ⟨_, rfl, ?_⟩
            replace HS : St W9 (owns []) W27 [row Aq os.length cq (cp os) 28 1, pl pz, row (some ⟨g15, 0, none⟩) ds.length c13 (ci .i64 ds) 3 1] := HS.join (F := []) (G := []) H_
            clear H_
            refine ql (.slice Aq os.length cq) (by kernel_rfl) (by kernel_rfl) ?_
            refine ql (.int .i64 (os.length : Int)) (by kernel_rfl) (by kernel_rfl) ?_
            refine ql (.bool true) (by kernel_rfl) (R_beq (b := (nwc arcs ds (rdI ds t0).toNat t0 == (os.length : Int))) (by kernel_rfl) (beq_t (by rw [hnc, hwl]))) ?_
            refine ql (.bool true) (by kernel_rfl) (by kernel_rfl) ?_
            refine ql (.bool true) (by kernel_rfl) (by kernel_rfl) ?_
            refine qc (f := 40) (args := #[]) (by kernel_rfl) (R_call #[] Try.func40 (by kernel_rfl) (by kernel_rfl) (by kernel_rfl)) ?_
            refine (awake14 _).mono ?_
            rintro e W28 ⟨rfl, H_⟩
            refine ⟨_, rfl, ?_⟩
            replace HS : St W9 (owns []) W28 [row Aq os.length cq (cp os) 28 1, pl pz, row (some ⟨g15, 0, none⟩) ds.length c13 (ci .i64 ds) 3 1] := HS.join (F := []) (G := []) H_
            clear H_
            refine ql (.bool true) (by kernel_rfl) (by kernel_rfl) ?_
            refine ql (.bool true) (by kernel_rfl) (by kernel_rfl) ?_
            refine wpList_nil ?_
            refine x_then ?_
            refine wp_ret ?_
            refine ret_ (.bool true) (by kernel_rfl) ?_
            replace HS : St W5 (owns []) W28 [row Aq os.length cq (cp os) 28 1, pl pz, row (some ⟨g15, 0, none⟩) ds.length c13 (ci .i64 ds) 3 1, row A1 ((rl arcs bs (rdI ds t0).toNat t0).reverse.length) c1 (ci .i64 ((rl arcs bs (rdI ds t0).toNat t0).reverse)) 3 1, blk g7 [.int .i64 0, .int .i64 0, .int .i64 0, .int .i64 0, .int .i64 0, .int .i64 0, .int .i64 (0 + ((kt : Nat) : Int))] 51] := HB10.join (F := []) (G := [row Aq os.length cq (cp os) 28 1, pl pz, row (some ⟨g15, 0, none⟩) ds.length c13 (ci .i64 ds) 3 1]) HS
            replace HS : St W (owns []) W28 [row Aq os.length cq (cp os) 28 1, pl pz, row (some ⟨g15, 0, none⟩) ds.length c13 (ci .i64 ds) 3 1, row A1 ((rl arcs bs (rdI ds t0).toNat t0).reverse.length) c1 (ci .i64 ((rl arcs bs (rdI ds t0).toNat t0).reverse)) 3 1, blk g7 [.int .i64 0, .int .i64 0, .int .i64 0, .int .i64 0, .int .i64 0, .int .i64 0, .int .i64 (0 + ((kt : Nat) : Int))] 51] := HB6.join (F := []) (G := [row Aq os.length cq (cp os) 28 1, pl pz, row (some ⟨g15, 0, none⟩) ds.length c13 (ci .i64 ds) 3 1, row A1 ((rl arcs bs (rdI ds t0).toNat t0).reverse.length) c1 (ci .i64 ((rl arcs bs (rdI ds t0).toNat t0).reverse)) 3 1, blk g7 [.int .i64 0, .int .i64 0, .int .i64 0, .int .i64 0, .int .i64 0, .int .i64 0, .int .i64 (0 + ((kt : Nat) : Int))] 51]) HS
            exact ⟨rfl, HS.tail (F := [row Aq os.length cq (cp os) 28 1, pl pz, row (some ⟨g15, 0, none⟩) ds.length c13 (ci .i64 ds) 3 1, row A1 ((rl arcs bs (rdI ds t0).toNat t0).reverse.length) c1 (ci .i64 ((rl arcs bs (rdI ds t0).toNat t0).reverse)) 3 1, blk g7 [.int .i64 0, .int .i64 0, .int .i64 0, .int .i64 0, .int .i64 0, .int .i64 0, .int .i64 (0 + ((kt : Nat) : Int))] 51])⟩
        · refine ⟨_, rfl, ?_⟩
          replace HS : St W5 (owns []) W9 [blk g7 [.int .i64 0, .int .i64 0, .int .i64 0, .int .i64 0, .int .i64 0, .int .i64 0, .int .i64 (0 + ((kt : Nat) : Int))] 51] := HS.join (F := [blk g7 [.int .i64 0, .int .i64 0, .int .i64 0, .int .i64 0, .int .i64 0, .int .i64 0, .int .i64 0] 51]) (G := [blk g7 [.int .i64 0, .int .i64 0, .int .i64 0, .int .i64 0, .int .i64 0, .int .i64 0, .int .i64 (0 + ((kt : Nat) : Int))] 51]) H_
          clear H_
          have hrll := rl_len arcs bs (rdI ds t0).toNat t0
          have hdl := hDS.ld
          have hc := Rd.ofBlk HS (i := 0) rfl
          have HB29 := HS
          replace hr := hr.below (HB29.kept.below owns_nil)
          replace hG := hG.below (HB29.kept.below owns_nil)
          clear HS
          have HS : St W9 (owns []) W9 [] := St.start _ _
          refine ql (.tuple #[.slice none 0 0, .bool false]) (by kernel_rfl) (by kernel_rfl) ?_
          refine ql (.slice none 0 0) (by kernel_rfl) (by kernel_rfl) ?_
          refine ql (.bool false) (by kernel_rfl) (by kernel_rfl) ?_
          refine ql (.slice none 0 0) (by kernel_rfl) (by kernel_rfl) ?_
          refine ql (.bool false) (by kernel_rfl) (by kernel_rfl) ?_
          refine wpList_nil ?_
          refine x_then ?_
          refine wp_seq ?_
          refine wp_region_lit ?_
          refine ql (.int .i64 (-1)) (by kernel_rfl) (by kernel_rfl) ?_
          refine wpList_nil ?_
          refine x_then ?_
          refine wp_seq ?_
          refine wp_seq ?_
          refine wp_region_lit ?_
          refine ql (.int .i64 t0) (by kernel_rfl) (by kernel_rfl) ?_
          by_cases hc30 : t0 ≥ (0 : Int)
          · skip
            refine ql (.bool true) (by kernel_rfl) (R_bool (p := t0 ≥ (0 : Int)) (by kernel_rfl) (hc30)) ?_
            refine ql (.bool true) (by kernel_rfl) (by kernel_rfl) ?_
            refine ql (.int .i64 t0) (by kernel_rfl) (by kernel_rfl) ?_
            refine ql (.int .i64 (N : Int)) (by kernel_rfl) (by kernel_rfl) ?_
            by_cases hc31 : t0 < (N : Int)
            · skip
              refine ql (.bool true) (by kernel_rfl) (R_bool (p := t0 < (N : Int)) (by kernel_rfl) (hc31)) ?_
              refine ql (.bool true) (by kernel_rfl) (by kernel_rfl) ?_
              refine wpList_nil ?_
              refine x_then ?_
              refine wp_cond_true (by kernel_rfl) ?_
              refine wp_region_lit ?_
              refine ql (.int .i64 (N : Int)) (by kernel_rfl) (by kernel_rfl) ?_
              refine ql (.slice A arcs.length c) (by kernel_rfl) (by kernel_rfl) ?_
              refine ql (.int .i64 v) (by kernel_rfl) (by kernel_rfl) ?_
              refine qc (f := 33) (args := #[.int .i64 (N : Int), .slice A arcs.length c, .int .i64 v]) (by kernel_rfl) (R_call #[.int .i64 (N : Int), .slice A arcs.length c, .int .i64 v] Try.func33 (by kernel_rfl) (by kernel_rfl) (by kernel_rfl)) ?_
              refine (rdist N _ _ arcs _ (hr.old0 HS) (by omega) v hFF (by omega) ds hDS).mono ?_
              rintro e W34 ⟨A32, c33, rfl, H_⟩
              refine ⟨_, rfl, ?_⟩
              replace HS : St W9 (owns []) W34 [row A32 ds.length c33 (ci .i64 ds) 3 1] := HS.join (F := []) (G := [row A32 ds.length c33 (ci .i64 ds) 3 1]) H_
              clear H_
              refine ql (.int .i64 t0) (by kernel_rfl) (by kernel_rfl) ?_
              obtain ⟨g35, rfl⟩ := St.rsome HS (i := 0) rfl (by omega)
              refine ql (.pointer (some ⟨g35, t0.toNat, none⟩)) (by kernel_rfl) (R_index1 (k := .i64) (g := g35) (n := ds.length) (c := c33) (i := t0) (by kernel_rfl) (by kernel_rfl) Try.underlying28 (by kernel_rfl) (by omega) (by omega)) ?_
              refine ql (.int .i64 (rdI ds t0)) (by kernel_rfl) (R_load (p := ⟨g35, t0.toNat, none⟩) (by kernel_rfl) (by kernel_rfl) (by kernel_rfl) (HS.rcell (i := 0) rfl (ci_rd (i := t0) (by omega) (by omega)))) ?_
              refine ql (.int .i64 (rdI ds t0)) (by kernel_rfl) (by kernel_rfl) ?_
              refine wpList_nil ?_
              refine x_then ?_
              refine wp_seq ?_
              refine wp_seq ?_
              refine wp_region_lit ?_
              refine ql (.bool false) (by kernel_rfl) (by kernel_rfl) ?_
              refine ql (.int .i64 (rdI ds t0)) (by kernel_rfl) (by kernel_rfl) ?_
              refine ql (.bool false) (by kernel_rfl) (R_nbool (p := (rdI ds t0) ≥ (0 : Int)) (by kernel_rfl) (by omega)) ?_
              refine ql (.bool false) (by kernel_rfl) (by kernel_rfl) ?_
              refine ql (.bool false) (by kernel_rfl) (by kernel_rfl) ?_
              refine ql (.slice none 0 0) (by kernel_rfl) (by kernel_rfl) ?_
              refine ql (.int .i64 0) (by kernel_rfl) (by kernel_rfl) ?_
              refine ql (.bool false) (by kernel_rfl) (R_beq (b := decide ((0 : Int) > 0)) (by kernel_rfl) (by decide)) ?_
              refine ql (.bool false) (by kernel_rfl) (by kernel_rfl) ?_
              refine qln (by kernel_rfl) ?_
              refine qln (by kernel_rfl) ?_
              refine ql (.bool false) (by kernel_rfl) (by kernel_rfl) ?_
              refine ql (.bool false) (by kernel_rfl) (by kernel_rfl) ?_
              refine ql (.bool false) (by kernel_rfl) (by kernel_rfl) ?_
              refine qc (f := 37) (args := #[.pointer (some ⟨g7, 0, none⟩), .int .i64 6]) (by kernel_rfl) (R_call #[.pointer (some ⟨g7, 0, none⟩), .int .i64 6] Try.func37 (by kernel_rfl) (by kernel_rfl) (by kernel_rfl)) ?_
              refine (cof_6 g7 (0 + ((kt : Nat) : Int)) _ (hc.old0 HS)).mono ?_
              rintro e W36 ⟨rfl, H_⟩
              refine ⟨_, rfl, ?_⟩
              replace HS : St W9 (owns []) W36 [row (some ⟨g35, 0, none⟩) ds.length c33 (ci .i64 ds) 3 1] := HS.join (F := []) (G := []) H_
              clear H_
              refine ql (.int .i64 (N : Int)) (by kernel_rfl) (by kernel_rfl) ?_
              refine ql (.slice A arcs.length c) (by kernel_rfl) (by kernel_rfl) ?_
              refine ql (.int .i64 (arcs.length : Int)) (by kernel_rfl) (by kernel_rfl) ?_
              refine ql (.int .i64 ((N : Int) + (arcs.length : Int))) (by kernel_rfl) (R_int (by kernel_rfl) (w64 (by omega))) ?_
              refine ql (.int .i64 (3 * ((N : Int) + (arcs.length : Int)))) (by kernel_rfl) (R_int (by kernel_rfl) (w64 (by omega))) ?_
              refine ql (.bool false) (by kernel_rfl) (R_nbool (p := (0 + ((kt : Nat) : Int)) > (3 * ((N : Int) + (arcs.length : Int)))) (by kernel_rfl) (by omega)) ?_
              refine ql (.bool false) (by kernel_rfl) (by kernel_rfl) ?_
              refine wpList_nil ?_
              refine x_then ?_
              refine wp_cond_false (by kernel_rfl) ?_
              refine wp_skip ?_
              refine x_then ?_
              refine wp_seq ?_
              refine wp_seq ?_
              refine wp_region_lit ?_
              refine ql (.bool false) (by kernel_rfl) (by kernel_rfl) ?_
              refine ql (.bool true) (by kernel_rfl) (by kernel_rfl) ?_
              refine wpList_nil ?_
              refine x_then ?_
              refine wp_cond_true (by kernel_rfl) ?_
              refine wp_seq ?_
              refine wp_region_lit ?_
              refine ql (.pointer (some ⟨g, 0, none⟩)) (by kernel_rfl) (by kernel_rfl) ?_
              refine ql (.int .i64 v) (by kernel_rfl) (by kernel_rfl) ?_
              refine ql (.int .i64 t0) (by kernel_rfl) (by kernel_rfl) ?_
              refine qc (f := 42) (args := #[.pointer (some ⟨g, 0, none⟩), .int .i64 v, .int .i64 t0]) (by kernel_rfl) (R_call #[.pointer (some ⟨g, 0, none⟩), .int .i64 v, .int .i64 t0] Try.func42 (by kernel_rfl) (by kernel_rfl) (by kernel_rfl)) ?_
              refine (count_no g N arcs v t0 ds _ (hG.below (HS.kept.below owns_nil)) (by omega) (by omega) hDS ht).mono ?_
              rintro e W37 ⟨rfl, H_⟩
              refine ⟨_, rfl, ?_⟩
              replace HS : St W9 (owns []) W37 [row (some ⟨g35, 0, none⟩) ds.length c33 (ci .i64 ds) 3 1] := HS.join (F := []) (G := []) H_
              clear H_
              refine ql (.bool true) (by kernel_rfl) (R_beq (b := ((0 : Int) == 0)) (by kernel_rfl) (by decide)) ?_
              refine ql (.bool true) (by kernel_rfl) (by kernel_rfl) ?_
              refine qc (f := 40) (args := #[]) (by kernel_rfl) (R_call #[] Try.func40 (by kernel_rfl) (by kernel_rfl) (by kernel_rfl)) ?_
              refine (awake14 _).mono ?_
              rintro e W38 ⟨rfl, H_⟩
              refine ⟨_, rfl, ?_⟩
              replace HS : St W9 (owns []) W38 [row (some ⟨g35, 0, none⟩) ds.length c33 (ci .i64 ds) 3 1] := HS.join (F := []) (G := []) H_
              clear H_
              refine ql (.bool true) (by kernel_rfl) (by kernel_rfl) ?_
              refine ql (.bool true) (by kernel_rfl) (by kernel_rfl) ?_
              refine wpList_nil ?_
              refine x_then ?_
              refine wp_ret ?_
              refine x_thenR ?_
              refine ret_ (.bool true) (by kernel_rfl) ?_
              replace HS : St W5 (owns []) W38 [row (some ⟨g35, 0, none⟩) ds.length c33 (ci .i64 ds) 3 1, blk g7 [.int .i64 0, .int .i64 0, .int .i64 0, .int .i64 0, .int .i64 0, .int .i64 0, .int .i64 (0 + ((kt : Nat) : Int))] 51] := HB29.join (F := []) (G := [row (some ⟨g35, 0, none⟩) ds.length c33 (ci .i64 ds) 3 1]) HS
              replace HS : St W (owns []) W38 [row (some ⟨g35, 0, none⟩) ds.length c33 (ci .i64 ds) 3 1, blk g7 [.int .i64 0, .int .i64 0, .int .i64 0, .int .i64 0, .int .i64 0, .int .i64 0, .int .i64 (0 + ((kt : Nat) : Int))] 51] := HB6.join (F := []) (G := [row (some ⟨g35, 0, none⟩) ds.length c33 (ci .i64 ds) 3 1, blk g7 [.int .i64 0, .int .i64 0, .int .i64 0, .int .i64 0, .int .i64 0, .int .i64 0, .int .i64 (0 + ((kt : Nat) : Int))] 51]) HS
              exact ⟨rfl, HS.tail (F := [row (some ⟨g35, 0, none⟩) ds.length c33 (ci .i64 ds) 3 1, blk g7 [.int .i64 0, .int .i64 0, .int .i64 0, .int .i64 0, .int .i64 0, .int .i64 0, .int .i64 (0 + ((kt : Nat) : Int))] 51])⟩
            · skip
              refine ql (.bool false) (by kernel_rfl) (R_nbool (p := t0 < (N : Int)) (by kernel_rfl) (hc31)) ?_
              refine ql (.bool false) (by kernel_rfl) (by kernel_rfl) ?_
              refine wpList_nil ?_
              refine x_then ?_
              refine wp_cond_false (by kernel_rfl) ?_
              refine wp_skip ?_
              refine x_then ?_
              refine wp_seq ?_
              refine wp_seq ?_
              refine wp_region_lit ?_
              refine ql (.bool false) (by kernel_rfl) (by kernel_rfl) ?_
              refine ql (.int .i64 (-1)) (by kernel_rfl) (by kernel_rfl) ?_
              refine ql (.bool false) (by kernel_rfl) (R_beq (b := decide ((-1 : Int) ≥ 0)) (by kernel_rfl) (by decide)) ?_
              refine ql (.bool false) (by kernel_rfl) (by kernel_rfl) ?_
              refine ql (.bool false) (by kernel_rfl) (by kernel_rfl) ?_
              refine ql (.slice none 0 0) (by kernel_rfl) (by kernel_rfl) ?_
              refine ql (.int .i64 0) (by kernel_rfl) (by kernel_rfl) ?_
              refine ql (.bool false) (by kernel_rfl) (R_beq (b := decide ((0 : Int) > 0)) (by kernel_rfl) (by decide)) ?_
              refine ql (.bool false) (by kernel_rfl) (by kernel_rfl) ?_
              refine qln (by kernel_rfl) ?_
              refine qln (by kernel_rfl) ?_
              refine ql (.bool false) (by kernel_rfl) (by kernel_rfl) ?_
              refine ql (.bool false) (by kernel_rfl) (by kernel_rfl) ?_
              refine ql (.bool false) (by kernel_rfl) (by kernel_rfl) ?_
              refine qc (f := 37) (args := #[.pointer (some ⟨g7, 0, none⟩), .int .i64 6]) (by kernel_rfl) (R_call #[.pointer (some ⟨g7, 0, none⟩), .int .i64 6] Try.func37 (by kernel_rfl) (by kernel_rfl) (by kernel_rfl)) ?_
              refine (cof_6 g7 (0 + ((kt : Nat) : Int)) _ (hc.old0 HS)).mono ?_
              rintro e W39 ⟨rfl, H_⟩
              refine ⟨_, rfl, ?_⟩
              replace HS : St W9 (owns []) W39 [] := HS.join (F := []) (G := []) H_
              clear H_
              refine ql (.int .i64 (N : Int)) (by kernel_rfl) (by kernel_rfl) ?_
              refine ql (.slice A arcs.length c) (by kernel_rfl) (by kernel_rfl) ?_
              refine ql (.int .i64 (arcs.length : Int)) (by kernel_rfl) (by kernel_rfl) ?_
              refine ql (.int .i64 ((N : Int) + (arcs.length : Int))) (by kernel_rfl) (R_int (by kernel_rfl) (w64 (by omega))) ?_
              refine ql (.int .i64 (3 * ((N : Int) + (arcs.length : Int)))) (by kernel_rfl) (R_int (by kernel_rfl) (w64 (by omega))) ?_
              refine ql (.bool false) (by kernel_rfl) (R_nbool (p := (0 + ((kt : Nat) : Int)) > (3 * ((N : Int) + (arcs.length : Int)))) (by kernel_rfl) (by omega)) ?_
              refine ql (.bool false) (by kernel_rfl) (by kernel_rfl) ?_
              refine wpList_nil ?_
              refine x_then ?_
              refine wp_cond_false (by kernel_rfl) ?_
              refine wp_skip ?_
              refine x_then ?_
              refine wp_seq ?_
              refine wp_seq ?_
              refine wp_region_lit ?_
              refine ql (.bool false) (by kernel_rfl) (by kernel_rfl) ?_
              refine ql (.bool true) (by kernel_rfl) (by kernel_rfl) ?_
              refine wpList_nil ?_
              refine x_then ?_
              refine wp_cond_true (by kernel_rfl) ?_
              refine wp_seq ?_
              refine wp_region_lit ?_
              refine ql (.pointer (some ⟨g, 0, none⟩)) (by kernel_rfl) (by kernel_rfl) ?_
              refine ql (.int .i64 v) (by kernel_rfl) (by kernel_rfl) ?_
              refine ql (.int .i64 t0) (by kernel_rfl) (by kernel_rfl) ?_
              refine qc (f := 42) (args := #[.pointer (some ⟨g, 0, none⟩), .int .i64 v, .int .i64 t0]) (by kernel_rfl) (R_call #[.pointer (some ⟨g, 0, none⟩), .int .i64 v, .int .i64 t0] Try.func42 (by kernel_rfl) (by kernel_rfl) (by kernel_rfl)) ?_
              refine (count_no g N arcs v t0 ds _ (hG.below (HS.kept.below owns_nil)) (by omega) (by omega) hDS ht).mono ?_
              rintro e W40 ⟨rfl, H_⟩
              refine ⟨_, rfl, ?_⟩
              replace HS : St W9 (owns []) W40 [] := HS.join (F := []) (G := []) H_
              clear H_
              refine ql (.bool true) (by kernel_rfl) (R_beq (b := ((0 : Int) == 0)) (by kernel_rfl) (by decide)) ?_
              refine ql (.bool true) (by kernel_rfl) (by kernel_rfl) ?_
              refine qc (f := 40) (args := #[]) (by kernel_rfl) (R_call #[] Try.func40 (by kernel_rfl) (by kernel_rfl) (by kernel_rfl)) ?_
              refine (awake14 _).mono ?_
              rintro e W41 ⟨rfl, H_⟩
              refine ⟨_, rfl, ?_⟩
              replace HS : St W9 (owns []) W41 [] := HS.join (F := []) (G := []) H_
              clear H_
              refine ql (.bool true) (by kernel_rfl) (by kernel_rfl) ?_
              refine ql (.bool true) (by kernel_rfl) (by kernel_rfl) ?_
              refine wpList_nil ?_
              refine x_then ?_
              refine wp_ret ?_
              refine x_thenR ?_
              refine ret_ (.bool true) (by kernel_rfl) ?_
              replace HS : St W5 (owns []) W41 [blk g7 [.int .i64 0, .int .i64 0, .int .i64 0, .int .i64 0, .int .i64 0, .int .i64 0, .int .i64 (0 + ((kt : Nat) : Int))] 51] := HB29.join (F := []) (G := []) HS
              replace HS : St W (owns []) W41 [blk g7 [.int .i64 0, .int .i64 0, .int .i64 0, .int .i64 0, .int .i64 0, .int .i64 0, .int .i64 (0 + ((kt : Nat) : Int))] 51] := HB6.join (F := []) (G := [blk g7 [.int .i64 0, .int .i64 0, .int .i64 0, .int .i64 0, .int .i64 0, .int .i64 0, .int .i64 (0 + ((kt : Nat) : Int))] 51]) HS
              exact ⟨rfl, HS.tail (F := [blk g7 [.int .i64 0, .int .i64 0, .int .i64 0, .int .i64 0, .int .i64 0, .int .i64 0, .int .i64 (0 + ((kt : Nat) : Int))] 51])⟩
          · skip
            refine ql (.bool false) (by kernel_rfl) (R_nbool (p := t0 ≥ (0 : Int)) (by kernel_rfl) (hc30)) ?_
            refine ql (.bool false) (by kernel_rfl) (by kernel_rfl) ?_
            refine qln (by kernel_rfl) ?_
            refine qln (by kernel_rfl) ?_
            refine qln (by kernel_rfl) ?_
            refine ql (.bool false) (by kernel_rfl) (by kernel_rfl) ?_
            refine wpList_nil ?_
            refine x_then ?_
            refine wp_cond_false (by kernel_rfl) ?_
            refine wp_skip ?_
            refine x_then ?_
            refine wp_seq ?_
            refine wp_seq ?_
            refine wp_region_lit ?_
            refine ql (.bool false) (by kernel_rfl) (by kernel_rfl) ?_
            refine ql (.int .i64 (-1)) (by kernel_rfl) (by kernel_rfl) ?_
            refine ql (.bool false) (by kernel_rfl) (R_beq (b := decide ((-1 : Int) ≥ 0)) (by kernel_rfl) (by decide)) ?_
            refine ql (.bool false) (by kernel_rfl) (by kernel_rfl) ?_
            refine ql (.bool false) (by kernel_rfl) (by kernel_rfl) ?_
            refine ql (.slice none 0 0) (by kernel_rfl) (by kernel_rfl) ?_
            refine ql (.int .i64 0) (by kernel_rfl) (by kernel_rfl) ?_
            refine ql (.bool false) (by kernel_rfl) (R_beq (b := decide ((0 : Int) > 0)) (by kernel_rfl) (by decide)) ?_
            refine ql (.bool false) (by kernel_rfl) (by kernel_rfl) ?_
            refine qln (by kernel_rfl) ?_
            refine qln (by kernel_rfl) ?_
            refine ql (.bool false) (by kernel_rfl) (by kernel_rfl) ?_
            refine ql (.bool false) (by kernel_rfl) (by kernel_rfl) ?_
            refine ql (.bool false) (by kernel_rfl) (by kernel_rfl) ?_
            refine qc (f := 37) (args := #[.pointer (some ⟨g7, 0, none⟩), .int .i64 6]) (by kernel_rfl) (R_call #[.pointer (some ⟨g7, 0, none⟩), .int .i64 6] Try.func37 (by kernel_rfl) (by kernel_rfl) (by kernel_rfl)) ?_
            refine (cof_6 g7 (0 + ((kt : Nat) : Int)) _ (hc.old0 HS)).mono ?_
            rintro e W42 ⟨rfl, H_⟩
            refine ⟨_, rfl, ?_⟩
            replace HS : St W9 (owns []) W42 [] := HS.join (F := []) (G := []) H_
            clear H_
            refine ql (.int .i64 (N : Int)) (by kernel_rfl) (by kernel_rfl) ?_
            refine ql (.slice A arcs.length c) (by kernel_rfl) (by kernel_rfl) ?_
            refine ql (.int .i64 (arcs.length : Int)) (by kernel_rfl) (by kernel_rfl) ?_
            refine ql (.int .i64 ((N : Int) + (arcs.length : Int))) (by kernel_rfl) (R_int (by kernel_rfl) (w64 (by omega))) ?_
            refine ql (.int .i64 (3 * ((N : Int) + (arcs.length : Int)))) (by kernel_rfl) (R_int (by kernel_rfl) (w64 (by omega))) ?_
            refine ql (.bool false) (by kernel_rfl) (R_nbool (p := (0 + ((kt : Nat) : Int)) > (3 * ((N : Int) + (arcs.length : Int)))) (by kernel_rfl) (by omega)) ?_
            refine ql (.bool false) (by kernel_rfl) (by kernel_rfl) ?_
            refine wpList_nil ?_
            refine x_then ?_
            refine wp_cond_false (by kernel_rfl) ?_
            refine wp_skip ?_
            refine x_then ?_
            refine wp_seq ?_
            refine wp_seq ?_
            refine wp_region_lit ?_
            refine ql (.bool false) (by kernel_rfl) (by kernel_rfl) ?_
            refine ql (.bool true) (by kernel_rfl) (by kernel_rfl) ?_
            refine wpList_nil ?_
            refine x_then ?_
            refine wp_cond_true (by kernel_rfl) ?_
            refine wp_seq ?_
            refine wp_region_lit ?_
            refine ql (.pointer (some ⟨g, 0, none⟩)) (by kernel_rfl) (by kernel_rfl) ?_
            refine ql (.int .i64 v) (by kernel_rfl) (by kernel_rfl) ?_
            refine ql (.int .i64 t0) (by kernel_rfl) (by kernel_rfl) ?_
            refine qc (f := 42) (args := #[.pointer (some ⟨g, 0, none⟩), .int .i64 v, .int .i64 t0]) (by kernel_rfl) (R_call #[.pointer (some ⟨g, 0, none⟩), .int .i64 v, .int .i64 t0] Try.func42 (by kernel_rfl) (by kernel_rfl) (by kernel_rfl)) ?_
            refine (count_no g N arcs v t0 ds _ (hG.below (HS.kept.below owns_nil)) (by omega) (by omega) hDS ht).mono ?_
            rintro e W43 ⟨rfl, H_⟩
            refine ⟨_, rfl, ?_⟩
            replace HS : St W9 (owns []) W43 [] := HS.join (F := []) (G := []) H_
            clear H_
            refine ql (.bool true) (by kernel_rfl) (R_beq (b := ((0 : Int) == 0)) (by kernel_rfl) (by decide)) ?_
            refine ql (.bool true) (by kernel_rfl) (by kernel_rfl) ?_
            refine qc (f := 40) (args := #[]) (by kernel_rfl) (R_call #[] Try.func40 (by kernel_rfl) (by kernel_rfl) (by kernel_rfl)) ?_
            refine (awake14 _).mono ?_
            rintro e W44 ⟨rfl, H_⟩
            refine ⟨_, rfl, ?_⟩
            replace HS : St W9 (owns []) W44 [] := HS.join (F := []) (G := []) H_
            clear H_
            refine ql (.bool true) (by kernel_rfl) (by kernel_rfl) ?_
            refine ql (.bool true) (by kernel_rfl) (by kernel_rfl) ?_
            refine wpList_nil ?_
            refine x_then ?_
            refine wp_ret ?_
            refine x_thenR ?_
            refine ret_ (.bool true) (by kernel_rfl) ?_
            replace HS : St W5 (owns []) W44 [blk g7 [.int .i64 0, .int .i64 0, .int .i64 0, .int .i64 0, .int .i64 0, .int .i64 0, .int .i64 (0 + ((kt : Nat) : Int))] 51] := HB29.join (F := []) (G := []) HS
            replace HS : St W (owns []) W44 [blk g7 [.int .i64 0, .int .i64 0, .int .i64 0, .int .i64 0, .int .i64 0, .int .i64 0, .int .i64 (0 + ((kt : Nat) : Int))] 51] := HB6.join (F := []) (G := [blk g7 [.int .i64 0, .int .i64 0, .int .i64 0, .int .i64 0, .int .i64 0, .int .i64 0, .int .i64 (0 + ((kt : Nat) : Int))] 51]) HS
            exact ⟨rfl, HS.tail (F := [blk g7 [.int .i64 0, .int .i64 0, .int .i64 0, .int .i64 0, .int .i64 0, .int .i64 0, .int .i64 (0 + ((kt : Nat) : Int))] 51])⟩
      · refine ⟨_, rfl, ?_⟩
        replace HS : St W (owns []) W5 [] := HS.join (F := []) (G := []) H_
        clear H_
        refine ql (.tuple #[.pointer none, .int .i64 (chk n arcs)]) (by kernel_rfl) (by kernel_rfl) ?_
        refine ql (.pointer none) (by kernel_rfl) (by kernel_rfl) ?_
        refine ql (.int .i64 (chk n arcs)) (by kernel_rfl) (by kernel_rfl) ?_
        refine ql (.pointer none) (by kernel_rfl) (by kernel_rfl) ?_
        refine ql (.int .i64 (chk n arcs)) (by kernel_rfl) (by kernel_rfl) ?_
        refine wpList_nil ?_
        refine x_then ?_
        refine wp_seq ?_
        refine wp_seq ?_
        refine wp_region_lit ?_
        refine ql (.int .i64 (chk n arcs)) (by kernel_rfl) (by kernel_rfl) ?_
        refine ql (.bool true) (by kernel_rfl) (R_beq (b := (chk n arcs != (0 : Int))) (by kernel_rfl) (bne_t (by omega))) ?_
        refine wpList_nil ?_
        refine x_then ?_
        refine wp_cond_true (by kernel_rfl) ?_
        refine wp_seq ?_
        refine wp_region_lit ?_
        refine ql (.pointer none) (by kernel_rfl) (by kernel_rfl) ?_
        refine ql (.int .i64 v) (by kernel_rfl) (by kernel_rfl) ?_
        refine ql (.int .i64 t0) (by kernel_rfl) (by kernel_rfl) ?_
        refine qc (f := 41) (args := #[.pointer none, .int .i64 v, .int .i64 t0, .pointer none]) (by kernel_rfl) (R_call #[.pointer none, .int .i64 v, .int .i64 t0, .pointer none] Try.func41 (by kernel_rfl) (by kernel_rfl) (by kernel_rfl)) ?_
        refine (short_nil v t0 _).mono ?_
        rintro e W45 ⟨rfl, H_⟩
        refine ⟨_, rfl, ?_⟩
        replace HS : St W (owns []) W45 [] := HS.join (F := []) (G := []) H_
        clear H_
        refine ql (.tuple #[.slice none 0 0, .bool false]) (by kernel_rfl) (by kernel_rfl) ?_
        refine ql (.slice none 0 0) (by kernel_rfl) (by kernel_rfl) ?_
        refine ql (.bool false) (by kernel_rfl) (by kernel_rfl) ?_
        refine ql (.slice none 0 0) (by kernel_rfl) (by kernel_rfl) ?_
        refine ql (.bool false) (by kernel_rfl) (by kernel_rfl) ?_
        refine wpList_nil ?_
        refine x_then ?_
        refine wp_seq ?_
        refine wp_region_lit ?_
        refine ql (.slice none 0 0) (by kernel_rfl) (by kernel_rfl) ?_
        refine ql (.int .i64 0) (by kernel_rfl) (by kernel_rfl) ?_
        refine ql (.bool true) (by kernel_rfl) (R_beq (b := ((0 : Int) == 0)) (by kernel_rfl) (by decide)) ?_
        refine ql (.bool true) (by kernel_rfl) (by kernel_rfl) ?_
        refine ql (.bool false) (by kernel_rfl) (by kernel_rfl) ?_
        refine ql (.bool true) (by kernel_rfl) (by kernel_rfl) ?_
        refine ql (.bool true) (by kernel_rfl) (by kernel_rfl) ?_
        refine ql (.bool true) (by kernel_rfl) (by kernel_rfl) ?_
        refine ql (.pointer none) (by kernel_rfl) (by kernel_rfl) ?_
        refine ql (.int .i64 v) (by kernel_rfl) (by kernel_rfl) ?_
        refine ql (.int .i64 t0) (by kernel_rfl) (by kernel_rfl) ?_
        refine qc (f := 42) (args := #[.pointer none, .int .i64 v, .int .i64 t0]) (by kernel_rfl) (R_call #[.pointer none, .int .i64 v, .int .i64 t0] Try.func42 (by kernel_rfl) (by kernel_rfl) (by kernel_rfl)) ?_
        refine (count_nil v t0 _).mono ?_
        rintro e W46 ⟨rfl, H_⟩
        refine ⟨_, rfl, ?_⟩
        replace HS : St W (owns []) W46 [] := HS.join (F := []) (G := []) H_
        clear H_
        refine ql (.bool true) (by kernel_rfl) (R_beq (b := ((0 : Int) == 0)) (by kernel_rfl) (by decide)) ?_
        refine ql (.bool true) (by kernel_rfl) (by kernel_rfl) ?_
        refine ql (.bool true) (by kernel_rfl) (by kernel_rfl) ?_
        refine qc (f := 40) (args := #[]) (by kernel_rfl) (R_call #[] Try.func40 (by kernel_rfl) (by kernel_rfl) (by kernel_rfl)) ?_
        refine (awake14 _).mono ?_
        rintro e W47 ⟨rfl, H_⟩
        refine ⟨_, rfl, ?_⟩
        replace HS : St W (owns []) W47 [] := HS.join (F := []) (G := []) H_
        clear H_
        refine ql (.bool true) (by kernel_rfl) (by kernel_rfl) ?_
        refine ql (.bool true) (by kernel_rfl) (by kernel_rfl) ?_
        refine wpList_nil ?_
        refine x_then ?_
        refine wp_ret ?_
        refine x_thenR ?_
        refine ret_ (.bool true) (by kernel_rfl) ?_
        exact ⟨rfl, HS⟩


end Go.Proofs.Ythfpdpjccnnlhaa.GPathShort
