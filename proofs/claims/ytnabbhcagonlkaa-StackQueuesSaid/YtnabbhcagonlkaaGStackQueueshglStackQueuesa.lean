/- Written for this claim by gp.py, a program of this session's, over the kit's print. Lean checks it. -/
import Derived.Test.YtnabbhcagonlkaaGStackQueuesx0
import Derived.Test.YtnabbhcagonlkaaGStackQueueshx
import Derived.Test.YtnabbhcagonlkaaGStackQueueshhp1
import Derived.Test.YtnabbhcagonlkaaGStackQueueshhp2
import Derived.Test.YtnabbhcagonlkaaGStackQueueshhp4
import Derived.Test.YtnabbhcagonlkaaGStackQueueshw1a
import Derived.Test.YtnabbhcagonlkaaGStackQueueshw2a
import Derived.Test.YtnabbhcagonlkaaGStackQueueshw3a
import Derived.WalkKit
import Derived.StillTailTactics
import Derived.Deep.LoopGhost
import Derived.KernelRfl
import Derived.Deep.OwnRows
import Derived.Laws.OwnMore
import Derived.Laws.MakeOwn
import Derived.Maps.AppendAt
import Derived.OrdersHeld
namespace Go.Proofs.Ytnabbhcagonlkaa.GStackQueues
open Go.RowKit Go.Proofs.YtnabbhcagonlkaaW.PrintWords Go.Proofs.YtnabbhcagonlkaaW.PrintLast Go.Proofs.YtnabbhcagonlkaaW.PrintMore
attribute [local go_sem] max2_int min2_int max_two min_two max_three min_three max_four min_four   -- for this text's walks alone
set_option linter.unusedVariables false
set_option linter.unusedSimpArgs false

--import Derived.WalkKit
--import Derived.StillTailTactics
--import Derived.Deep.LoopGhost
--import Derived.KernelRfl
--import Derived.Deep.OwnRows
--import Derived.Laws.OwnMore
--import Derived.Laws.MakeOwn
--import Derived.Maps.AppendAt
--import Derived.OrdersHeld
attribute [local irreducible] wpStill wpList Code.wp TA

theorem nodup_snoc {xs : List Int} {v : Int} (h : xs.Nodup) (hv : v ∉ xs) : (xs ++ [v]).Nodup := List.nodup_append.2 ⟨h, List.nodup_cons.2 ⟨by simp, List.nodup_nil⟩, fun x hx y hy e => by rw [List.mem_singleton] at hy; subst hy; subst e; exact hv hx⟩
theorem nodup_tail {xs : List Int} (h : xs.Nodup) : xs.tail.Nodup := h.sublist (List.tail_sublist _)
theorem len_tail (xs : List Int) : xs.tail.length = xs.length - 1 := List.length_tail ..
theorem in_rdI {xs : List Int} {i : Int} (h0 : 0 ≤ i) (h1 : i < xs.length) : rdI xs i ∈ xs := List.mem_of_getElem? (rdI_eq h0 h1)
theorem act_in {acts : List (Int × Int)} {i : Int} {p : Int × Int → Prop} (h : ∀ a ∈ acts, p a) (h0 : 0 ≤ i) (h1 : i < acts.length) : p (gx acts i) := h _ (List.mem_of_getElem? (gx_eq h0 h1))

set_option maxRecDepth 100000 in
set_option maxHeartbeats 1000000 in
theorem StackQueues_walk (A : Option Addr) (c : Nat) (acts : List (Int × Int)) (W : World) (hr : Rd W A (cf actC acts)) (hcc : acts.length ≤ c) (hwf : ∀ a ∈ acts, -9223372036854775808 ≤ a.2 ∧ a.2 ≤ 9223372036854775807) : Calls Try.prog 9 #[.slice A acts.length c] W fun e W' => e = .returned (.bool true) ∧ St W (owns []) W' [] := by
  have HS : St W (owns []) W [] := St.start W _
  refine calls_enter ((.slice A acts.length c) :: undef :: undef :: undef :: undef :: undef :: undef :: undef :: undef :: undef :: undef :: undef :: undef :: undef :: undef :: undef :: undef :: undef :: undef :: undef :: undef :: undef :: undef :: undef :: undef :: undef :: undef :: undef :: undef :: undef :: undef :: undef :: undef :: undef :: undef :: undef :: undef :: undef :: undef :: undef :: undef :: undef :: undef :: undef :: undef :: undef :: undef :: undef :: undef :: undef :: undef :: undef :: undef :: undef :: undef :: undef :: undef :: undef :: undef :: undef :: undef :: undef :: undef :: undef :: undef :: undef :: undef :: undef :: undef :: undef :: undef :: undef :: undef :: undef :: undef :: undef :: undef :: undef :: undef :: undef :: undef :: undef :: undef :: undef :: undef :: undef :: undef :: undef :: undef :: undef :: undef :: undef :: undef :: undef :: undef :: undef :: undef :: undef :: undef :: undef :: undef :: undef :: undef :: undef :: undef :: undef :: undef :: undef :: undef :: undef :: undef :: undef :: undef :: undef :: undef :: undef :: undef :: undef :: undef :: undef :: undef :: undef :: undef :: undef :: undef :: undef :: undef :: undef :: undef :: undef :: undef :: undef :: undef :: undef :: undef :: undef :: undef :: []) Try.func9 rfl (by kernel_rfl) ?_
  refine wp_seq ?_
  refine wp_region_lit ?_
  refine ql (.bool false) (by kernel_rfl) (by kernel_rfl) ?_
  refine wpList_nil ?_
  refine x_then ?_
  refine wp_seq ?_
  refine wp_seq ?_
  refine wp_region_lit ?_
  refine ql (.slice A acts.length c) (by kernel_rfl) (by kernel_rfl) ?_
  refine ql (.int .i64 (acts.length : Int)) (by kernel_rfl) (by kernel_rfl) ?_
  by_cases hc1 : (acts.length : Int) > (60 : Int)
  · skip
    refine ql (.bool true) (by kernel_rfl) (R_bool (p := (acts.length : Int) > (60 : Int)) (by kernel_rfl) (hc1)) ?_
    refine wpList_nil ?_
    refine x_then ?_
    refine wp_cond_true (by kernel_rfl) ?_
    refine wp_seq ?_
    refine wp_region_lit ?_
    refine qc (f := 35) (args := #[]) (by kernel_rfl) (R_call #[] Try.func35 (by kernel_rfl) (by kernel_rfl) (by kernel_rfl)) ?_
    refine (awake07 _).mono ?_
    rintro e W2 ⟨rfl, H_⟩
    refine ⟨_, rfl, ?_⟩
    replace HS : St W (owns []) W2 [] := HS.join (F := []) (G := []) H_
    clear H_
    refine ql (.bool true) (by kernel_rfl) (by kernel_rfl) ?_
    refine wpList_nil ?_
    refine x_then ?_
    refine wp_ret ?_
    refine x_thenR ?_
    refine ret_ (.bool true) (by kernel_rfl) ?_
    exact ⟨rfl, HS.tail (F := [])⟩
  · skip
    refine ql (.bool false) (by kernel_rfl) (R_nbool (p := (acts.length : Int) > (60 : Int)) (by kernel_rfl) (hc1)) ?_
    refine wpList_nil ?_
    refine x_then ?_
    refine wp_cond_false (by kernel_rfl) ?_
    refine wp_skip ?_
    refine x_then ?_
    refine wp_seq ?_
    refine wp_region_lit ?_
    refine kb HS [.slice none 0 0, .int .i64 0, .int .i64 0] 54 (fun g => .pointer (some ⟨g, 0, none⟩)) (by kernel_rfl) (by kernel_rfl) ?_
    intro g3 W4 H_
    replace HS : St W (owns []) W4 [blk g3 [.slice none 0 0, .int .i64 0, .int .i64 0] 54] := H_
    clear H_
    refine wpList_nil ?_
    refine x_then ?_
    refine wp_seq ?_
    refine wp_region_lit ?_
    refine kb HS [.slice none 0 0, .int .i64 0, .int .i64 0, .map none] 57 (fun g => .pointer (some ⟨g, 0, none⟩)) (by kernel_rfl) (by kernel_rfl) ?_
    intro g5 W6 H_
    replace HS : St W (owns []) W6 [blk g5 [.slice none 0 0, .int .i64 0, .int .i64 0, .map none] 57, blk g3 [.slice none 0 0, .int .i64 0, .int .i64 0] 54] := H_
    clear H_
    refine wpList_nil ?_
    refine x_then ?_
    refine wp_seq ?_
    refine wp_region_lit ?_
    refine ql (.slice none 0 0) (by kernel_rfl) (by kernel_rfl) ?_
    refine ql (.slice none 0 0) (by kernel_rfl) (by kernel_rfl) ?_
    refine wpList_nil ?_
    refine x_then ?_
    refine wp_seq ?_
    refine wp_seq ?_
    refine wp_region_lit ?_
    refine ql (.int .i64 0) (by kernel_rfl) (by kernel_rfl) ?_
    refine wpList_nil ?_
    refine x_then ?_
    refine wp_block ?_
    replace HS : St W (owns []) W6 [row none 0 0 (ci .i64 ([])) 3 1, blk g5 [.slice none 0 0, .int .i64 0, .int .i64 0, .map none] 57, blk g3 [.slice none 0 0, .int .i64 0, .int .i64 0] 54] := (HS.nilRow 3 1).cast_ (by kernel_rfl)
    replace HS : St W (owns []) W6 [row none 0 0 (ci .i64 ([])) 3 1, row none 0 0 (ci .i64 ([])) 3 1, blk g5 [.slice none 0 0, .int .i64 0, .int .i64 0, .map none] 57, blk g3 [.slice none 0 0, .int .i64 0, .int .i64 0] 54] := (HS.nilRow 3 1).cast_ (by kernel_rfl)
    replace HS : St W (owns []) W6 [row none 0 0 (ci .i64 ([])) 3 1, row none 0 0 (ci .i64 ([])) 3 1, row none 0 0 (ci .i64 ([])) 3 1, blk g5 [.slice none 0 0, .int .i64 0, .int .i64 0, .map none] 57, blk g3 [.slice none 0 0, .int .i64 0, .int .i64 0] 54] := (HS.nilRow 3 1).cast_ (by kernel_rfl)
    replace HS : St W (owns []) W6 [row none 0 0 (ci .i64 ([])) 3 1, row none 0 0 (ci .i64 ([])) 3 1, row none 0 0 (ci .i64 ([])) 3 1, row none 0 0 (ci .i64 ([])) 3 1, blk g5 [.slice none 0 0, .int .i64 0, .int .i64 0, .map none] 57, blk g3 [.slice none 0 0, .int .i64 0, .int .i64 0] 54] := (HS.nilRow 3 1).cast_ (by kernel_rfl)
    replace HS : St W (owns []) W6 [rde none (ci .i64 ([])), row none 0 0 (ci .i64 ([])) 3 1, row none 0 0 (ci .i64 ([])) 3 1, row none 0 0 (ci .i64 ([])) 3 1, blk g5 [.slice none 0 0, .int .i64 0, .int .i64 0, .map none] 57, blk g3 [.slice none 0 0, .int .i64 0, .int .i64 0] 54] := HS.to_rde (i := 0) rfl
    replace HS : St W (owns []) W6 [rde none (ci .i64 ([])), rde none (ci .i64 ([])), row none 0 0 (ci .i64 ([])) 3 1, row none 0 0 (ci .i64 ([])) 3 1, blk g5 [.slice none 0 0, .int .i64 0, .int .i64 0, .map none] 57, blk g3 [.slice none 0 0, .int .i64 0, .int .i64 0] 54] := HS.to_rde (i := 1) rfl
    replace HS : St W (owns []) W6 [mpo Try.prog 3 3 (.map none) 0 (fun _ => 0), rde none (ci .i64 ([])), rde none (ci .i64 ([])), row none 0 0 (ci .i64 ([])) 3 1, row none 0 0 (ci .i64 ([])) 3 1, blk g5 [.slice none 0 0, .int .i64 0, .int .i64 0, .map none] 57, blk g3 [.slice none 0 0, .int .i64 0, .int .i64 0] 54] := HS.mpo_none
    replace HS : St W (owns []) W6 [mpo Try.prog 3 3 (.map none) 0 (fun _ => 0), blk g5 [.slice none 0 0, .int .i64 0, .int .i64 0, .map none] 57, row none 0 0 (ci .i64 ([])) 3 1, blk g3 [.slice none 0 0, .int .i64 0, .int .i64 0] 54, row none 0 0 (ci .i64 ([])) 3 1, rde none (ci .i64 ([])), rde none (ci .i64 ([]))] := HS.perm (perm_ [0, 5, 3, 6, 4, 1, 2] (by kernel_rfl) rfl)
    refine wp_loop_ghost (fun kq a' w' => ∃ (J7 : Nat → Value) (i : Int) (Aq : Option Addr) (cq : Nat) (fq : Nat) (nq : Nat) (qs_ : List Int) (xs : List Int) (mv : Value) (m : Nat) (F : Lit → Int) (Aw : Option Addr) (cw : Nat) (fw : Nat) (nw : Nat) (ws : List Int) (zs : List Int) (Aa : Option Addr) (ca : Nat) (Ab : Option Addr) (cb : Nat) , a' = Fr ((.slice A acts.length c) :: undef :: ((J7 2)) :: (.pointer (some ⟨g3, 0, none⟩)) :: (.pointer (some ⟨g5, 0, none⟩)) :: (.slice Aa xs.length ca) :: (.slice Ab zs.length cb) :: (.int .i64 i) :: ((J7 8)) :: ((J7 9)) :: ((J7 10)) :: ((J7 11)) :: ((J7 12)) :: ((J7 13)) :: ((J7 14)) :: ((J7 15)) :: ((J7 16)) :: ((J7 17)) :: (.slice A acts.length c) :: (.int .i64 (acts.length : Int)) :: (.bool false) :: undef :: ((J7 22)) :: ((J7 23)) :: ((J7 24)) :: ((J7 25)) :: ((J7 26)) :: ((J7 27)) :: ((J7 28)) :: ((J7 29)) :: ((J7 30)) :: ((J7 31)) :: ((J7 32)) :: ((J7 33)) :: ((J7 34)) :: ((J7 35)) :: ((J7 36)) :: ((J7 37)) :: ((J7 38)) :: ((J7 39)) :: ((J7 40)) :: ((J7 41)) :: ((J7 42)) :: ((J7 43)) :: ((J7 44)) :: ((J7 45)) :: ((J7 46)) :: ((J7 47)) :: ((J7 48)) :: ((J7 49)) :: ((J7 50)) :: ((J7 51)) :: ((J7 52)) :: ((J7 53)) :: ((J7 54)) :: ((J7 55)) :: ((J7 56)) :: ((J7 57)) :: ((J7 58)) :: ((J7 59)) :: ((J7 60)) :: ((J7 61)) :: ((J7 62)) :: ((J7 63)) :: ((J7 64)) :: ((J7 65)) :: ((J7 66)) :: ((J7 67)) :: ((J7 68)) :: ((J7 69)) :: ((J7 70)) :: ((J7 71)) :: ((J7 72)) :: ((J7 73)) :: ((J7 74)) :: ((J7 75)) :: ((J7 76)) :: ((J7 77)) :: ((J7 78)) :: ((J7 79)) :: ((J7 80)) :: ((J7 81)) :: ((J7 82)) :: ((J7 83)) :: ((J7 84)) :: ((J7 85)) :: ((J7 86)) :: ((J7 87)) :: ((J7 88)) :: ((J7 89)) :: ((J7 90)) :: ((J7 91)) :: ((J7 92)) :: ((J7 93)) :: ((J7 94)) :: ((J7 95)) :: ((J7 96)) :: ((J7 97)) :: ((J7 98)) :: ((J7 99)) :: ((J7 100)) :: ((J7 101)) :: ((J7 102)) :: ((J7 103)) :: ((J7 104)) :: ((J7 105)) :: ((J7 106)) :: ((J7 107)) :: ((J7 108)) :: ((J7 109)) :: ((J7 110)) :: ((J7 111)) :: ((J7 112)) :: ((J7 113)) :: ((J7 114)) :: ((J7 115)) :: ((J7 116)) :: ((J7 117)) :: ((J7 118)) :: ((J7 119)) :: ((J7 120)) :: ((J7 121)) :: ((J7 122)) :: ((J7 123)) :: ((J7 124)) :: ((J7 125)) :: ((J7 126)) :: ((J7 127)) :: ((J7 128)) :: ((J7 129)) :: ((J7 130)) :: ((J7 131)) :: ((J7 132)) :: ((J7 133)) :: ((J7 134)) :: ((J7 135)) :: undef :: []) ∧ kq = (acts.length - (i).toNat) ∧ (0 ≤ i) ∧ (i ≤ acts.length) ∧ (RQ qs_ fq nq xs) ∧ (RQ ws fw nw zs) ∧ (Held zs F) ∧ ((zs).Nodup) ∧ (((xs).length : Int) ≤ 2 * i) ∧ (((zs).length : Int) ≤ i) ∧ ((m : Int) ≤ 2 * i) ∧ ((xs).length ≤ ca) ∧ ((zs).length ≤ cb) ∧ (∀ x ∈ zs, -9223372036854775808 ≤ x ∧ x ≤ 9223372036854775807) ∧ St W (owns []) w' [mpo Try.prog 3 3 mv m F, blk g5 [.slice Aw ws.length cw, .int .i64 (fw : Int), .int .i64 (nw : Int), mv] 57, row Aw ws.length cw (ci .i64 ws) 3 1, blk g3 [.slice Aq qs_.length cq, .int .i64 (fq : Int), .int .i64 (nq : Int)] 54, row Aq qs_.length cq (ci .i64 qs_) 3 1, rde Aa (ci .i64 xs), rde Ab (ci .i64 zs)]) (acts.length - ((0 : Int)).toNat) ⟨(fun k_ : Nat => List.getD ((.slice A acts.length c) :: undef :: (.bool false) :: (.pointer (some ⟨g3, 0, none⟩)) :: (.pointer (some ⟨g5, 0, none⟩)) :: (.slice none 0 0) :: (.slice none 0 0) :: (.int .i64 0) :: undef :: undef :: undef :: undef :: undef :: undef :: undef :: undef :: undef :: undef :: (.slice A acts.length c) :: (.int .i64 (acts.length : Int)) :: (.bool false) :: undef :: undef :: undef :: undef :: undef :: undef :: undef :: undef :: undef :: undef :: undef :: undef :: undef :: undef :: undef :: undef :: undef :: undef :: undef :: undef :: undef :: undef :: undef :: undef :: undef :: undef :: undef :: undef :: undef :: undef :: undef :: undef :: undef :: undef :: undef :: undef :: undef :: undef :: undef :: undef :: undef :: undef :: undef :: undef :: undef :: undef :: undef :: undef :: undef :: undef :: undef :: undef :: undef :: undef :: undef :: undef :: undef :: undef :: undef :: undef :: undef :: undef :: undef :: undef :: undef :: undef :: undef :: undef :: undef :: undef :: undef :: undef :: undef :: undef :: undef :: undef :: undef :: undef :: undef :: undef :: undef :: undef :: undef :: undef :: undef :: undef :: undef :: undef :: undef :: undef :: undef :: undef :: undef :: undef :: undef :: undef :: undef :: undef :: undef :: undef :: undef :: undef :: undef :: undef :: undef :: undef :: undef :: undef :: undef :: undef :: undef :: undef :: undef :: undef :: undef :: undef :: []) k_ undef), (0 : Int), none, 0, 0, 0, ([] : List Int), ([] : List Int), .map none, 0, (fun _ => 0), none, 0, 0, 0, ([] : List Int), ([] : List Int), none, 0, none, 0, congrArg Fr (by kernel_rfl), rfl, by omega, by omega, RQ.nil, RQ.nil, held_nil, List.nodup_nil, by simp, by simp, by omega, by simp, by simp, by simp, HS⟩ ?_
    clear HS
    intro kq8 a' W9 hrel
    obtain ⟨J7, i, Aq, cq, fq, nq, qs_, xs, mv, m, F, Aw, cw, fw, nw, ws, zs, Aa, ca, Ab, cb, rfl, hk, i0, i1, hq, hw, hH, hnd, hxl, hzl, hml, hca, hcb, hrz, HS⟩ := hrel
    have hql := hq.len
    have hwl := hw.len
    refine wp_seq ?_
    refine wp_seq ?_
    refine wp_region_lit ?_
    refine ql (.int .i64 i) (by kernel_rfl) (by kernel_rfl) ?_
    refine ql (.slice A acts.length c) (by kernel_rfl) (by kernel_rfl) ?_
    refine ql (.int .i64 (acts.length : Int)) (by kernel_rfl) (by kernel_rfl) ?_
    by_cases hc10 : i < (acts.length : Int)
    · skip
      refine ql (.bool true) (by kernel_rfl) (R_bool (p := i < (acts.length : Int)) (by kernel_rfl) (hc10)) ?_
      refine wpList_nil ?_
      refine x_then ?_
      refine wp_cond_true (by kernel_rfl) ?_
      refine wp_skip ?_
      refine x_then ?_
      refine wp_seq ?_
      refine wp_block ?_
      refine wp_seq ?_
      refine wp_seq ?_
      refine wp_region_lit ?_
      refine ql (.slice A acts.length c) (by kernel_rfl) (by kernel_rfl) ?_
      refine ql (.int .i64 i) (by kernel_rfl) (by kernel_rfl) ?_
      obtain ⟨ad11, rfl⟩ := Rd.isSome_ hr (by rw [cf_len (z := 2) (fun _ => rfl)]; omega)
      refine ql (.pointer (some (ad11.add (i.toNat * 2)))) (by kernel_rfl) (R_indexA (k := .i64) (p := ad11) (n := acts.length) (c := c) (i := i) (by kernel_rfl) (by kernel_rfl) Try.underlying52 (by kernel_rfl) (by omega) (by omega)) ?_
      refine ql (.pointer (some (ad11.add (i.toNat * 2)))) (by kernel_rfl) (by kernel_rfl) ?_
      refine ql (.int .i64 ((gx acts i).1)) (by kernel_rfl) (R_load (p := ad11.add (i.toNat * 2)) (by kernel_rfl) (by kernel_rfl) (by kernel_rfl) (HS.old0 (Rd.elem0 (f := actC) (fun _ => rfl) hr (gx_eq (by omega) (by omega)) rfl))) ?_
      by_cases hc12 : ((gx acts i).1) = (0 : Int)
      · skip
        refine ql (.bool true) (by kernel_rfl) (R_beq (b := ((gx acts i).1 == (0 : Int))) (by kernel_rfl) (beq_t (hc12))) ?_
        refine wpList_nil ?_
        refine x_then ?_
        refine wp_cond_true (by kernel_rfl) ?_
        refine wp_seq ?_
        refine wp_region_lit ?_
        refine ql (.slice (some ad11) acts.length c) (by kernel_rfl) (by kernel_rfl) ?_
        refine ql (.int .i64 i) (by kernel_rfl) (by kernel_rfl) ?_
        refine ql (.pointer (some (ad11.add (i.toNat * 2)))) (by kernel_rfl) (R_indexA (k := .i64) (p := ad11) (n := acts.length) (c := c) (i := i) (by kernel_rfl) (by kernel_rfl) Try.underlying52 (by kernel_rfl) (by omega) (by omega)) ?_
        refine ql (.pointer (some ((ad11.add (i.toNat * 2)).add 1))) (by kernel_rfl) (by kernel_rfl) ?_
        refine ql (.int .i64 ((gx acts i).2)) (by kernel_rfl) (R_load (p := (ad11.add (i.toNat * 2)).add 1) (by kernel_rfl) (by kernel_rfl) (by kernel_rfl) (HS.old0 (Rd.elem1 (k := 1) (f := actC) (fun _ => rfl) hr (gx_eq (by omega) (by omega)) rfl))) ?_
        refine ql (.int .i64 i) (by kernel_rfl) (by kernel_rfl) ?_
        refine kl HS 2 [.int .i64 ((gx acts i).2), .int .i64 i] 3 1 (by kernel_rfl) (by kernel_rfl) rfl (by decide) ?_
        intro g13 W14 H_
        replace HS : St W (owns []) W14 [row (some ⟨g13, 0, none⟩) 2 2 (ci .i64 ([(gx acts i).2, i])) 3 1, mpo Try.prog 3 3 mv m F, blk g5 [.slice Aw ws.length cw, .int .i64 (fw : Int), .int .i64 (nw : Int), mv] 57, row Aw ws.length cw (ci .i64 ws) 3 1, blk g3 [.slice Aq qs_.length cq, .int .i64 (fq : Int), .int .i64 (nq : Int)] 54, row Aq qs_.length cq (ci .i64 qs_) 3 1, rde Aa (ci .i64 xs), rde Ab (ci .i64 zs)] := H_.cast_ (by kernel_rfl)
        clear H_
        refine qc (f := 36) (args := #[.pointer (some ⟨g3, 0, none⟩), .slice (some ⟨g13, 0, none⟩) 2 2]) (by kernel_rfl) (R_call #[.pointer (some ⟨g3, 0, none⟩), .slice (some ⟨g13, 0, none⟩) 2 2] Try.func36 (by kernel_rfl) (by kernel_rfl) (by kernel_rfl)) ?_
        replace HS : St W (owns []) W14 [blk g3 [.slice Aq qs_.length cq, .int .i64 (fq : Int), .int .i64 (nq : Int)] 54, row Aq qs_.length cq (ci .i64 qs_) 3 1, row (some ⟨g13, 0, none⟩) 2 2 (ci .i64 ([(gx acts i).2, i])) 3 1, mpo Try.prog 3 3 mv m F, blk g5 [.slice Aw ws.length cw, .int .i64 (fw : Int), .int .i64 (nw : Int), mv] 57, row Aw ws.length cw (ci .i64 ws) 3 1, rde Aa (ci .i64 xs), rde Ab (ci .i64 zs)] := HS.perm (perm_ [4, 5, 0, 1, 2, 3, 6, 7] (by kernel_rfl) rfl)
        refine (qpush g3 54 [] _ _ cq _ fq nq qs_ xs ([(gx acts i).2, i]) _ _ (St.focus (F := [blk g3 [.slice Aq qs_.length cq, .int .i64 (fq : Int), .int .i64 (nq : Int)] 54, row Aq qs_.length cq (ci .i64 qs_) 3 1, row (some ⟨g13, 0, none⟩) 2 2 (ci .i64 ([(gx acts i).2, i])) 3 1]) HS) hq (by simp only [List.length_cons, List.length_nil]; omega)).mono ?_
        rintro e W15 ⟨A1, c1, f1, n1, q1, rfl, H_, hqn⟩
        refine ⟨_, rfl, ?_⟩
        replace HS : St W (owns []) W15 [blk g3 [.slice A1 q1.length c1, .int .i64 (f1 : Int), .int .i64 (n1 : Int)] 54, row A1 q1.length c1 (ci .i64 q1) 3 1, mpo Try.prog 3 3 mv m F, blk g5 [.slice Aw ws.length cw, .int .i64 (fw : Int), .int .i64 (nw : Int), mv] 57, row Aw ws.length cw (ci .i64 ws) 3 1, rde Aa (ci .i64 xs), rde Ab (ci .i64 zs)] := HS.join (F := [blk g3 [.slice Aq qs_.length cq, .int .i64 (fq : Int), .int .i64 (nq : Int)] 54, row Aq qs_.length cq (ci .i64 qs_) 3 1, row (some ⟨g13, 0, none⟩) 2 2 (ci .i64 ([(gx acts i).2, i])) 3 1]) (G := [blk g3 [.slice A1 q1.length c1, .int .i64 (f1 : Int), .int .i64 (n1 : Int)] 54, row A1 q1.length c1 (ci .i64 q1) 3 1]) H_
        clear H_
        have hql2 := hqn.len
        simp only [List.length_append, List.length_cons, List.length_nil] at hql2
        refine wpList_nil ?_
        refine x_then ?_
        refine wp_seq ?_
        refine wp_region_lit ?_
        refine ql (.slice Aa xs.length ca) (by kernel_rfl) (by kernel_rfl) ?_
        refine ql (.slice (some ad11) acts.length c) (by kernel_rfl) (by kernel_rfl) ?_
        refine ql (.int .i64 i) (by kernel_rfl) (by kernel_rfl) ?_
        refine ql (.pointer (some (ad11.add (i.toNat * 2)))) (by kernel_rfl) (R_indexA (k := .i64) (p := ad11) (n := acts.length) (c := c) (i := i) (by kernel_rfl) (by kernel_rfl) Try.underlying52 (by kernel_rfl) (by omega) (by omega)) ?_
        refine ql (.pointer (some ((ad11.add (i.toNat * 2)).add 1))) (by kernel_rfl) (by kernel_rfl) ?_
        refine ql (.int .i64 ((gx acts i).2)) (by kernel_rfl) (R_load (p := (ad11.add (i.toNat * 2)).add 1) (by kernel_rfl) (by kernel_rfl) (by kernel_rfl) (HS.old0 (Rd.elem1 (k := 1) (f := actC) (fun _ => rfl) hr (gx_eq (by omega) (by omega)) rfl))) ?_
        refine qc (f := 37) (args := #[.slice Aa xs.length ca, .int .i64 ((gx acts i).2)]) (by kernel_rfl) (R_call #[.slice Aa xs.length ca, .int .i64 ((gx acts i).2)] Try.func37 (by kernel_rfl) (by kernel_rfl) (by kernel_rfl)) ?_
        refine (rput _ _ xs ((gx acts i).2) _ (HS.get (i := 5) rfl) (by first | omega | (simp only [List.length_append, List.length_cons, List.length_nil]; omega))).mono ?_
        rintro e W18 ⟨A16, c17, rfl, H_⟩
        refine ⟨_, rfl, ?_⟩
        replace HS : St W (owns []) W18 [row A16 ((xs ++ [(gx acts i).2]).length) c17 (ci .i64 (xs ++ [(gx acts i).2])) 3 1, blk g3 [.slice A1 q1.length c1, .int .i64 (f1 : Int), .int .i64 (n1 : Int)] 54, row A1 q1.length c1 (ci .i64 q1) 3 1, mpo Try.prog 3 3 mv m F, blk g5 [.slice Aw ws.length cw, .int .i64 (fw : Int), .int .i64 (nw : Int), mv] 57, row Aw ws.length cw (ci .i64 ws) 3 1, rde Aa (ci .i64 xs), rde Ab (ci .i64 zs)] := HS.join (F := []) (G := [row A16 ((xs ++ [(gx acts i).2]).length) c17 (ci .i64 (xs ++ [(gx acts i).2])) 3 1]) H_
        clear H_
        have hcA16 := (St.rcap HS (i := 0) rfl).1
        simp only [List.length_append, List.length_cons, List.length_nil] at hcA16
        replace HS : St W (owns []) W18 [rde A16 (ci .i64 (xs ++ [(gx acts i).2])), blk g3 [.slice A1 q1.length c1, .int .i64 (f1 : Int), .int .i64 (n1 : Int)] 54, row A1 q1.length c1 (ci .i64 q1) 3 1, mpo Try.prog 3 3 mv m F, blk g5 [.slice Aw ws.length cw, .int .i64 (fw : Int), .int .i64 (nw : Int), mv] 57, row Aw ws.length cw (ci .i64 ws) 3 1, rde Aa (ci .i64 xs), rde Ab (ci .i64 zs)] := HS.to_rde (i := 0) rfl
        replace HS : St W (owns []) W18 [rde A16 (ci .i64 (xs ++ [(gx acts i).2])), blk g3 [.slice A1 q1.length c1, .int .i64 (f1 : Int), .int .i64 (n1 : Int)] 54, row A1 q1.length c1 (ci .i64 q1) 3 1, mpo Try.prog 3 3 mv m F, blk g5 [.slice Aw ws.length cw, .int .i64 (fw : Int), .int .i64 (nw : Int), mv] 57, row Aw ws.length cw (ci .i64 ws) 3 1, rde Ab (ci .i64 zs)] := St.tail (F := [rde Aa (ci .i64 xs)]) (HS.perm (perm_ [6, 0, 1, 2, 3, 4, 5, 7] (by kernel_rfl) rfl))
        refine ql (.int .i64 i) (by kernel_rfl) (by kernel_rfl) ?_
        refine qc (f := 37) (args := #[.slice A16 ((xs ++ [(gx acts i).2]).length) c17, .int .i64 i]) (by kernel_rfl) (R_call #[.slice A16 ((xs ++ [(gx acts i).2]).length) c17, .int .i64 i] Try.func37 (by kernel_rfl) (by kernel_rfl) (by kernel_rfl)) ?_
        refine (rput _ _ (xs ++ [(gx acts i).2]) i _ (HS.get (i := 0) rfl) (by first | omega | (simp only [List.length_append, List.length_cons, List.length_nil]; omega))).mono ?_
        rintro e W21 ⟨A19, c20, rfl, H_⟩
        refine ⟨_, rfl, ?_⟩
        replace HS : St W (owns []) W21 [row A19 (((xs ++ [(gx acts i).2]) ++ [i]).length) c20 (ci .i64 ((xs ++ [(gx acts i).2]) ++ [i])) 3 1, rde A16 (ci .i64 (xs ++ [(gx acts i).2])), blk g3 [.slice A1 q1.length c1, .int .i64 (f1 : Int), .int .i64 (n1 : Int)] 54, row A1 q1.length c1 (ci .i64 q1) 3 1, mpo Try.prog 3 3 mv m F, blk g5 [.slice Aw ws.length cw, .int .i64 (fw : Int), .int .i64 (nw : Int), mv] 57, row Aw ws.length cw (ci .i64 ws) 3 1, rde Ab (ci .i64 zs)] := HS.join (F := []) (G := [row A19 (((xs ++ [(gx acts i).2]) ++ [i]).length) c20 (ci .i64 ((xs ++ [(gx acts i).2]) ++ [i])) 3 1]) H_
        clear H_
        have hcA19 := (St.rcap HS (i := 0) rfl).1
        simp only [List.length_append, List.length_cons, List.length_nil] at hcA19
        replace HS : St W (owns []) W21 [rde A19 (ci .i64 ((xs ++ [(gx acts i).2]) ++ [i])), rde A16 (ci .i64 (xs ++ [(gx acts i).2])), blk g3 [.slice A1 q1.length c1, .int .i64 (f1 : Int), .int .i64 (n1 : Int)] 54, row A1 q1.length c1 (ci .i64 q1) 3 1, mpo Try.prog 3 3 mv m F, blk g5 [.slice Aw ws.length cw, .int .i64 (fw : Int), .int .i64 (nw : Int), mv] 57, row Aw ws.length cw (ci .i64 ws) 3 1, rde Ab (ci .i64 zs)] := HS.to_rde (i := 0) rfl
        replace HS : St W (owns []) W21 [rde A19 (ci .i64 ((xs ++ [(gx acts i).2]) ++ [i])), blk g3 [.slice A1 q1.length c1, .int .i64 (f1 : Int), .int .i64 (n1 : Int)] 54, row A1 q1.length c1 (ci .i64 q1) 3 1, mpo Try.prog 3 3 mv m F, blk g5 [.slice Aw ws.length cw, .int .i64 (fw : Int), .int .i64 (nw : Int), mv] 57, row Aw ws.length cw (ci .i64 ws) 3 1, rde Ab (ci .i64 zs)] := St.tail (F := [rde A16 (ci .i64 (xs ++ [(gx acts i).2]))]) (HS.perm (perm_ [1, 0, 2, 3, 4, 5, 6, 7] (by kernel_rfl) rfl))
        refine ql (.slice A19 (((xs ++ [(gx acts i).2]) ++ [i]).length) c20) (by kernel_rfl) (by kernel_rfl) ?_
        refine wpList_nil ?_
        refine x_then ?_
        refine wp_seq ?_
        refine wp_seq ?_
        have hqm : RQ q1 f1 n1 ((xs ++ [(gx acts i).2]) ++ [i]) := by rw [List.append_assoc]; exact hqn
        have hvr := act_in (p := fun a => -9223372036854775808 ≤ a.2 ∧ a.2 ≤ 9223372036854775807) hwf i0 (by omega)
        replace HS : St W (owns []) W21 [mpo Try.prog 3 3 mv m F, blk g5 [.slice Aw ws.length cw, .int .i64 (fw : Int), .int .i64 (nw : Int), mv] 57, row Aw ws.length cw (ci .i64 ws) 3 1, rde A19 (ci .i64 ((xs ++ [(gx acts i).2]) ++ [i])), blk g3 [.slice A1 q1.length c1, .int .i64 (f1 : Int), .int .i64 (n1 : Int)] 54, row A1 q1.length c1 (ci .i64 q1) 3 1, rde Ab (ci .i64 zs)] := HS.perm (perm_ [3, 4, 5, 0, 1, 2, 6] (by kernel_rfl) rfl)
        refine t_start HS (owns [mpo Try.prog 3 3 mv m F, blk g5 [.slice Aw ws.length cw, .int .i64 (fw : Int), .int .i64 (nw : Int), mv] 57, row Aw ws.length cw (ci .i64 ws) 3 1]) 14 (by kernel_rfl) rfl ?_
        intro W22 H_ HD_
        clear HD_
        replace HS : St W (owns []) W22 [mpo Try.prog 3 3 mv m F, blk g5 [.slice Aw ws.length cw, .int .i64 (fw : Int), .int .i64 (nw : Int), mv] 57, row Aw ws.length cw (ci .i64 ws) 3 1, rde A19 (ci .i64 ((xs ++ [(gx acts i).2]) ++ [i])), blk g3 [.slice A1 q1.length c1, .int .i64 (f1 : Int), .int .i64 (n1 : Int)] 54, row A1 q1.length c1 (ci .i64 q1) 3 1, rde Ab (ci .i64 zs)] := H_
        clear H_
        have HV := HS
        have HK := Kpt.refl (owns [mpo Try.prog 3 3 mv m F, blk g5 [.slice Aw ws.length cw, .int .i64 (fw : Int), .int .i64 (nw : Int), mv] 57, row Aw ws.length cw (ci .i64 ws) 3 1]) W22
        refine t_q (n := 13) 0 (.slice (some ad11) acts.length c) rfl (by kernel_rfl) (by kernel_rfl) (fun _ _ _ h => h) (fun w' hk => (by kernel_rfl)) HK ?_
        refine t_q (n := 12) 1 (.int .i64 i) rfl (by kernel_rfl) (by kernel_rfl) (fun _ _ _ h => h) (fun w' hk => (by kernel_rfl)) HK ?_
        refine t_q (n := 11) 2 (.pointer (some (ad11.add (i.toNat * 2)))) rfl (by kernel_rfl) (by kernel_rfl) (fun _ _ _ h => h) (fun w' hk => (R_indexA (k := .i64) (p := ad11) (n := acts.length) (c := c) (i := i) (by kernel_rfl) (by kernel_rfl) Try.underlying52 (by kernel_rfl) (by omega) (by omega))) HK ?_
        refine t_q (n := 10) 3 (.pointer (some ((ad11.add (i.toNat * 2)).add 1))) rfl (by kernel_rfl) (by kernel_rfl) (fun _ _ _ h => h) (fun w' hk => (by kernel_rfl)) HK ?_
        refine t_q (n := 9) 4 (.int .i64 ((gx acts i).2)) rfl (by kernel_rfl) (by kernel_rfl) (fun _ _ _ h => h) (fun w' hk => (R_load (p := (ad11.add (i.toNat * 2)).add 1) (by kernel_rfl) (by kernel_rfl) (by kernel_rfl) (St.oldKF (F := [mpo Try.prog 3 3 mv m F, blk g5 [.slice Aw ws.length cw, .int .i64 (fw : Int), .int .i64 (nw : Int), mv] 57, row Aw ws.length cw (ci .i64 ws) 3 1]) HV hk (Rd.elem1 (k := 1) (f := actC) (fun _ => rfl) hr (gx_eq (by omega) (by omega)) rfl)))) HK ?_
        refine t_q (n := 8) 6 (.slice Ab zs.length cb) rfl (by kernel_rfl) (by kernel_rfl) (fun _ _ _ h => h) (fun w' hk => (by kernel_rfl)) HK ?_
        refine t_q (n := 7) 7 (.slice (some ad11) acts.length c) rfl (by kernel_rfl) (by kernel_rfl) (fun _ _ _ h => h) (fun w' hk => (by kernel_rfl)) HK ?_
        refine t_q (n := 6) 8 (.int .i64 i) rfl (by kernel_rfl) (by kernel_rfl) (fun _ _ _ h => h) (fun w' hk => (by kernel_rfl)) HK ?_
        refine t_q (n := 5) 9 (.pointer (some (ad11.add (i.toNat * 2)))) rfl (by kernel_rfl) (by kernel_rfl) (fun _ _ _ h => h) (fun w' hk => (R_indexA (k := .i64) (p := ad11) (n := acts.length) (c := c) (i := i) (by kernel_rfl) (by kernel_rfl) Try.underlying52 (by kernel_rfl) (by omega) (by omega))) HK ?_
        refine t_q (n := 4) 10 (.pointer (some ((ad11.add (i.toNat * 2)).add 1))) rfl (by kernel_rfl) (by kernel_rfl) (fun _ _ _ h => h) (fun w' hk => (by kernel_rfl)) HK ?_
        refine t_q (n := 3) 11 (.int .i64 ((gx acts i).2)) rfl (by kernel_rfl) (by kernel_rfl) (fun _ _ _ h => h) (fun w' hk => (R_load (p := (ad11.add (i.toNat * 2)).add 1) (by kernel_rfl) (by kernel_rfl) (by kernel_rfl) (St.oldKF (F := [mpo Try.prog 3 3 mv m F, blk g5 [.slice Aw ws.length cw, .int .i64 (fw : Int), .int .i64 (nw : Int), mv] 57, row Aw ws.length cw (ci .i64 ws) 3 1]) HV hk (Rd.elem1 (k := 1) (f := actC) (fun _ => rfl) hr (gx_eq (by omega) (by omega)) rfl)))) HK ?_
        refine t_c (n := 2) 5 (f := 38) (args := #[.pointer (some ⟨g5, 0, none⟩), .int .i64 ((gx acts i).2)]) rfl (by kernel_rfl) (by kernel_rfl) (R_call #[.pointer (some ⟨g5, 0, none⟩), .int .i64 ((gx acts i).2)] Try.func38 (by kernel_rfl) (by kernel_rfl) (by kernel_rfl)) ?_
        by_cases hin : (gx acts i).2 ∈ zs
        · skip
          refine (wpushM_in g5 57 Aw cw fw nw ws zs mv m F _ _ ((gx acts i).2) (St.focus (F := [mpo Try.prog 3 3 mv m F, blk g5 [.slice Aw ws.length cw, .int .i64 (fw : Int), .int .i64 (nw : Int), mv] 57, row Aw ws.length cw (ci .i64 ws) 3 1]) HS) hw hH (by omega) hvr (by omega) hin).mono ?_
          rintro e W23 ⟨m3, F3, rfl, H_, hHn, hm3⟩
          refine ⟨_, rfl, HK.trans H_.kept (fun _ h_ => .inl h_), ?_⟩
          replace HK := HK.trans H_.kept (fun _ h_ => .inl h_)
          replace HS : St W (owns []) W23 [mpo Try.prog 3 3 mv m3 F3, blk g5 [.slice Aw ws.length cw, .int .i64 (fw : Int), .int .i64 (nw : Int), mv] 57, row Aw ws.length cw (ci .i64 ws) 3 1, rde A19 (ci .i64 ((xs ++ [(gx acts i).2]) ++ [i])), blk g3 [.slice A1 q1.length c1, .int .i64 (f1 : Int), .int .i64 (n1 : Int)] 54, row A1 q1.length c1 (ci .i64 q1) 3 1, rde Ab (ci .i64 zs)] := HS.join (F := [mpo Try.prog 3 3 mv m F, blk g5 [.slice Aw ws.length cw, .int .i64 (fw : Int), .int .i64 (nw : Int), mv] 57, row Aw ws.length cw (ci .i64 ws) 3 1]) (G := [mpo Try.prog 3 3 mv m3 F3, blk g5 [.slice Aw ws.length cw, .int .i64 (fw : Int), .int .i64 (nw : Int), mv] 57, row Aw ws.length cw (ci .i64 ws) 3 1]) H_
          clear H_
          refine t_c (n := 1) 12 (f := 39) (args := #[.slice Ab zs.length cb, .int .i64 ((gx acts i).2)]) rfl (by kernel_rfl) (by kernel_rfl) (R_call #[.slice Ab zs.length cb, .int .i64 ((gx acts i).2)] Try.func39 (by kernel_rfl) (by kernel_rfl) (by kernel_rfl)) ?_
          refine (rhas_yes _ _ zs ((gx acts i).2) _ (HS.get (i := 6) rfl) (by omega) hin).mono ?_
          rintro e W24 ⟨rfl, H_⟩
          refine ⟨_, rfl, HK.tr H_.kept.nil, ?_⟩
          replace HK := HK.tr H_.kept.nil
          replace HS : St W (owns []) W24 [mpo Try.prog 3 3 mv m3 F3, blk g5 [.slice Aw ws.length cw, .int .i64 (fw : Int), .int .i64 (nw : Int), mv] 57, row Aw ws.length cw (ci .i64 ws) 3 1, rde A19 (ci .i64 ((xs ++ [(gx acts i).2]) ++ [i])), blk g3 [.slice A1 q1.length c1, .int .i64 (f1 : Int), .int .i64 (n1 : Int)] 54, row A1 q1.length c1 (ci .i64 q1) 3 1, rde Ab (ci .i64 zs)] := HS.join (F := []) (G := []) H_
          clear H_
          refine t_q (n := 0) 13 (.bool false) rfl (by kernel_rfl) (by kernel_rfl) (fun _ _ _ h => h) (fun w' hk => (by kernel_rfl)) HK ?_
          refine t_done (by kernel_rfl) ?_
          clear HV HK
          refine x_then ?_
          refine wp_cond_false (by kernel_rfl) ?_
          refine wp_skip ?_
          refine x_then ?_
          refine wp_seq ?_
          refine wp_region_lit ?_
          refine ql (.slice Ab zs.length cb) (by kernel_rfl) (by kernel_rfl) ?_
          refine ql (.slice (some ad11) acts.length c) (by kernel_rfl) (by kernel_rfl) ?_
          refine ql (.int .i64 i) (by kernel_rfl) (by kernel_rfl) ?_
          refine ql (.pointer (some (ad11.add (i.toNat * 2)))) (by kernel_rfl) (R_indexA (k := .i64) (p := ad11) (n := acts.length) (c := c) (i := i) (by kernel_rfl) (by kernel_rfl) Try.underlying52 (by kernel_rfl) (by omega) (by omega)) ?_
          refine ql (.pointer (some ((ad11.add (i.toNat * 2)).add 1))) (by kernel_rfl) (by kernel_rfl) ?_
          refine ql (.int .i64 ((gx acts i).2)) (by kernel_rfl) (R_load (p := (ad11.add (i.toNat * 2)).add 1) (by kernel_rfl) (by kernel_rfl) (by kernel_rfl) (HS.old0 (Rd.elem1 (k := 1) (f := actC) (fun _ => rfl) hr (gx_eq (by omega) (by omega)) rfl))) ?_
          refine qc (f := 39) (args := #[.slice Ab zs.length cb, .int .i64 ((gx acts i).2)]) (by kernel_rfl) (R_call #[.slice Ab zs.length cb, .int .i64 ((gx acts i).2)] Try.func39 (by kernel_rfl) (by kernel_rfl) (by kernel_rfl)) ?_
          refine (rhas_yes _ _ zs ((gx acts i).2) _ (HS.get (i := 6) rfl) (by omega) hin).mono ?_
          rintro e W25 ⟨rfl, H_⟩
          refine ⟨_, rfl, ?_⟩
          replace HS : St W (owns []) W25 [mpo Try.prog 3 3 mv m3 F3, blk g5 [.slice Aw ws.length cw, .int .i64 (fw : Int), .int .i64 (nw : Int), mv] 57, row Aw ws.length cw (ci .i64 ws) 3 1, rde A19 (ci .i64 ((xs ++ [(gx acts i).2]) ++ [i])), blk g3 [.slice A1 q1.length c1, .int .i64 (f1 : Int), .int .i64 (n1 : Int)] 54, row A1 q1.length c1 (ci .i64 q1) 3 1, rde Ab (ci .i64 zs)] := HS.join (F := []) (G := []) H_
          clear H_
          refine ql (.bool false) (by kernel_rfl) (by kernel_rfl) ?_
          refine wpList_nil ?_
          refine x_then ?_
          refine wp_cond_false (by kernel_rfl) ?_
          refine wp_skip ?_
          refine x_then ?_
          refine wp_seq ?_
          refine wp_seq ?_
          refine wp_region_lit ?_
          refine ql (.slice (some ad11) acts.length c) (by kernel_rfl) (by kernel_rfl) ?_
          refine ql (.int .i64 i) (by kernel_rfl) (by kernel_rfl) ?_
          refine ql (.pointer (some (ad11.add (i.toNat * 2)))) (by kernel_rfl) (R_indexA (k := .i64) (p := ad11) (n := acts.length) (c := c) (i := i) (by kernel_rfl) (by kernel_rfl) Try.underlying52 (by kernel_rfl) (by omega) (by omega)) ?_
          refine ql (.pointer (some (ad11.add (i.toNat * 2)))) (by kernel_rfl) (by kernel_rfl) ?_
          refine ql (.int .i64 ((gx acts i).1)) (by kernel_rfl) (R_load (p := ad11.add (i.toNat * 2)) (by kernel_rfl) (by kernel_rfl) (by kernel_rfl) (HS.old0 (Rd.elem0 (f := actC) (fun _ => rfl) hr (gx_eq (by omega) (by omega)) rfl))) ?_
          refine ql (.bool false) (by kernel_rfl) (R_beq (b := ((gx acts i).1 == (1 : Int))) (by kernel_rfl) (beq_f (by omega))) ?_
          refine wpList_nil ?_
          refine x_then ?_
          refine wp_cond_false (by kernel_rfl) ?_
          refine wp_skip ?_
          refine x_then ?_
          refine wp_seq ?_
          refine wp_region_lit ?_
          refine qc (f := 43) (args := #[.pointer (some ⟨g3, 0, none⟩)]) (by kernel_rfl) (R_call #[.pointer (some ⟨g3, 0, none⟩)] Try.func43 (by kernel_rfl) (by kernel_rfl) (by kernel_rfl)) ?_
          refine (qlen g3 n1 _ (HS.cell (i := 4) (j := 2) rfl rfl)).mono ?_
          rintro e W26 ⟨rfl, H_⟩
          refine ⟨_, rfl, ?_⟩
          replace HS : St W (owns []) W26 [mpo Try.prog 3 3 mv m3 F3, blk g5 [.slice Aw ws.length cw, .int .i64 (fw : Int), .int .i64 (nw : Int), mv] 57, row Aw ws.length cw (ci .i64 ws) 3 1, rde A19 (ci .i64 ((xs ++ [(gx acts i).2]) ++ [i])), blk g3 [.slice A1 q1.length c1, .int .i64 (f1 : Int), .int .i64 (n1 : Int)] 54, row A1 q1.length c1 (ci .i64 q1) 3 1, rde Ab (ci .i64 zs)] := HS.join (F := []) (G := []) H_
          clear H_
          refine ql (.slice A19 (((xs ++ [(gx acts i).2]) ++ [i]).length) c20) (by kernel_rfl) (by kernel_rfl) ?_
          refine ql (.int .i64 (((xs ++ [(gx acts i).2]) ++ [i]).length : Int)) (by kernel_rfl) (by kernel_rfl) ?_
          refine ql (.bool false) (by kernel_rfl) (R_beq (b := ((n1 : Int) != (((xs ++ [(gx acts i).2]) ++ [i]).length : Int))) (by kernel_rfl) (bne_f (by have h1_ := RQ.len hqm; (try simp only [List.length_append, List.length_cons, List.length_nil, len_tail] at *); omega))) ?_
          refine ql (.bool false) (by kernel_rfl) (by kernel_rfl) ?_
          refine qc (f := 44) (args := #[.pointer (some ⟨g5, 0, none⟩)]) (by kernel_rfl) (R_call #[.pointer (some ⟨g5, 0, none⟩)] Try.func44 (by kernel_rfl) (by kernel_rfl) (by kernel_rfl)) ?_
          refine (wlen g5 nw _ (HS.cell (i := 1) (j := 2) rfl rfl)).mono ?_
          rintro e W27 ⟨rfl, H_⟩
          refine ⟨_, rfl, ?_⟩
          replace HS : St W (owns []) W27 [mpo Try.prog 3 3 mv m3 F3, blk g5 [.slice Aw ws.length cw, .int .i64 (fw : Int), .int .i64 (nw : Int), mv] 57, row Aw ws.length cw (ci .i64 ws) 3 1, rde A19 (ci .i64 ((xs ++ [(gx acts i).2]) ++ [i])), blk g3 [.slice A1 q1.length c1, .int .i64 (f1 : Int), .int .i64 (n1 : Int)] 54, row A1 q1.length c1 (ci .i64 q1) 3 1, rde Ab (ci .i64 zs)] := HS.join (F := []) (G := []) H_
          clear H_
          refine ql (.slice Ab zs.length cb) (by kernel_rfl) (by kernel_rfl) ?_
          refine ql (.int .i64 (zs.length : Int)) (by kernel_rfl) (by kernel_rfl) ?_
          refine ql (.bool false) (by kernel_rfl) (R_beq (b := ((nw : Int) != (zs.length : Int))) (by kernel_rfl) (bne_f (by have h1_ := RQ.len hw; (try simp only [List.length_append, List.length_cons, List.length_nil, len_tail] at *); omega))) ?_
          refine ql (.bool false) (by kernel_rfl) (by kernel_rfl) ?_
          refine wpList_nil ?_
          refine x_then ?_
          refine wp_cond_false (by kernel_rfl) ?_
          refine wp_skip ?_
          refine x_inb ?_
          refine x_then ?_
          refine wp_region_lit ?_
          refine ql (.int .i64 i) (by kernel_rfl) (by kernel_rfl) ?_
          refine ql (.int .i64 (i + 1)) (by kernel_rfl) (R_int (by kernel_rfl) (w64 (by omega))) ?_
          refine ql (.int .i64 (i + 1)) (by kernel_rfl) (by kernel_rfl) ?_
          refine wpList_nil ?_
          replace HS : St W (owns []) W27 [mpo Try.prog 3 3 mv m3 F3, blk g5 [.slice Aw ws.length cw, .int .i64 (fw : Int), .int .i64 (nw : Int), mv] 57, row Aw ws.length cw (ci .i64 ws) 3 1, blk g3 [.slice A1 q1.length c1, .int .i64 (f1 : Int), .int .i64 (n1 : Int)] 54, row A1 q1.length c1 (ci .i64 q1) 3 1, rde A19 (ci .i64 ((xs ++ [(gx acts i).2]) ++ [i])), rde Ab (ci .i64 zs)] := St.tail (F := []) (HS.perm (perm_ [0, 1, 2, 4, 5, 3, 6] (by kernel_rfl) rfl))
          refine x_then ?_
          exact ⟨acts.length - (i + 1).toNat, by omega, (fun k_ : Nat => List.getD ((.slice (some ad11) acts.length c) :: undef :: ((J7 2)) :: (.pointer (some ⟨g3, 0, none⟩)) :: (.pointer (some ⟨g5, 0, none⟩)) :: (.slice A19 (((xs ++ [(gx acts i).2]) ++ [i]).length) c20) :: (.slice Ab zs.length cb) :: (.int .i64 (i + 1)) :: ((J7 8)) :: ((J7 9)) :: ((J7 10)) :: ((J7 11)) :: ((J7 12)) :: ((J7 13)) :: ((J7 14)) :: ((J7 15)) :: ((J7 16)) :: ((J7 17)) :: (.slice (some ad11) acts.length c) :: (.int .i64 (acts.length : Int)) :: (.bool false) :: undef :: (.int .i64 i) :: (.slice (some ad11) acts.length c) :: (.int .i64 (acts.length : Int)) :: (.bool true) :: (.int .i64 i) :: (.int .i64 (i + 1)) :: (.slice (some ad11) acts.length c) :: (.int .i64 i) :: (.pointer (some (ad11.add (i.toNat * 2)))) :: (.pointer (some (ad11.add (i.toNat * 2)))) :: (.int .i64 ((gx acts i).1)) :: (.bool true) :: (.slice (some ad11) acts.length c) :: (.int .i64 i) :: (.pointer (some (ad11.add (i.toNat * 2)))) :: (.pointer (some ((ad11.add (i.toNat * 2)).add 1))) :: (.int .i64 ((gx acts i).2)) :: (.int .i64 i) :: (.slice (some ⟨g13, 0, none⟩) 2 2) :: (.tuple #[]) :: (.slice Aa xs.length ca) :: (.slice (some ad11) acts.length c) :: (.int .i64 i) :: (.pointer (some (ad11.add (i.toNat * 2)))) :: (.pointer (some ((ad11.add (i.toNat * 2)).add 1))) :: (.int .i64 ((gx acts i).2)) :: (.slice A16 ((xs ++ [(gx acts i).2]).length) c17) :: (.int .i64 i) :: (.slice A19 (((xs ++ [(gx acts i).2]) ++ [i]).length) c20) :: (.slice (some ad11) acts.length c) :: (.int .i64 i) :: (.pointer (some (ad11.add (i.toNat * 2)))) :: (.pointer (some ((ad11.add (i.toNat * 2)).add 1))) :: (.int .i64 ((gx acts i).2)) :: (.bool false) :: (.slice Ab zs.length cb) :: (.slice (some ad11) acts.length c) :: (.int .i64 i) :: (.pointer (some (ad11.add (i.toNat * 2)))) :: (.pointer (some ((ad11.add (i.toNat * 2)).add 1))) :: (.int .i64 ((gx acts i).2)) :: (.bool true) :: (.bool false) :: (.slice Ab zs.length cb) :: (.slice (some ad11) acts.length c) :: (.int .i64 i) :: (.pointer (some (ad11.add (i.toNat * 2)))) :: (.pointer (some ((ad11.add (i.toNat * 2)).add 1))) :: (.int .i64 ((gx acts i).2)) :: (.bool true) :: (.bool false) :: ((J7 73)) :: ((J7 74)) :: ((J7 75)) :: ((J7 76)) :: ((J7 77)) :: ((J7 78)) :: ((J7 79)) :: (.slice (some ad11) acts.length c) :: (.int .i64 i) :: (.pointer (some (ad11.add (i.toNat * 2)))) :: (.pointer (some (ad11.add (i.toNat * 2)))) :: (.int .i64 ((gx acts i).1)) :: (.bool false) :: ((J7 86)) :: ((J7 87)) :: ((J7 88)) :: ((J7 89)) :: ((J7 90)) :: ((J7 91)) :: ((J7 92)) :: ((J7 93)) :: ((J7 94)) :: ((J7 95)) :: ((J7 96)) :: ((J7 97)) :: ((J7 98)) :: ((J7 99)) :: ((J7 100)) :: ((J7 101)) :: ((J7 102)) :: ((J7 103)) :: ((J7 104)) :: ((J7 105)) :: ((J7 106)) :: ((J7 107)) :: ((J7 108)) :: ((J7 109)) :: ((J7 110)) :: ((J7 111)) :: ((J7 112)) :: ((J7 113)) :: ((J7 114)) :: ((J7 115)) :: ((J7 116)) :: ((J7 117)) :: ((J7 118)) :: ((J7 119)) :: ((J7 120)) :: ((J7 121)) :: ((J7 122)) :: ((J7 123)) :: ((J7 124)) :: ((J7 125)) :: (.int .i64 (n1 : Int)) :: (.slice A19 (((xs ++ [(gx acts i).2]) ++ [i]).length) c20) :: (.int .i64 (((xs ++ [(gx acts i).2]) ++ [i]).length : Int)) :: (.bool false) :: (.bool false) :: (.int .i64 (nw : Int)) :: (.slice Ab zs.length cb) :: (.int .i64 (zs.length : Int)) :: (.bool false) :: (.bool false) :: undef :: []) k_ undef), i + 1, A1, c1, f1, n1, q1, ((xs ++ [(gx acts i).2]) ++ [i]), mv, m3, F3, Aw, cw, fw, nw, ws, zs, A19, c20, Ab, cb, congrArg Fr (by kernel_rfl), rfl, by omega, by omega, hqm, hw, hHn, hnd, by (try simp only [List.length_append, List.length_cons, List.length_nil, len_tail]); omega, by (try simp only [List.length_append, List.length_cons, List.length_nil, len_tail]); omega, by omega, by (try simp only [List.length_append, List.length_cons, List.length_nil, len_tail]); omega, by (try simp only [List.length_append, List.length_cons, List.length_nil, len_tail]); omega, hrz, HS⟩
        · skip
          refine (wpushM_out g5 57 Aw cw fw nw ws zs mv m F _ _ ((gx acts i).2) (St.focus (F := [mpo Try.prog 3 3 mv m F, blk g5 [.slice Aw ws.length cw, .int .i64 (fw : Int), .int .i64 (nw : Int), mv] 57, row Aw ws.length cw (ci .i64 ws) 3 1]) HS) hw hH (by omega) hvr (by omega) hin).mono ?_
          rintro e W28 ⟨mv3, m3, F3, A3, c3, f3, n3, w3, rfl, H_, hwn, hHn, hm3⟩
          refine ⟨_, rfl, HK.trans H_.kept (fun _ h_ => .inl h_), ?_⟩
          replace HK := HK.trans H_.kept (fun _ h_ => .inl h_)
          replace HS : St W (owns []) W28 [mpo Try.prog 3 3 mv3 m3 F3, blk g5 [.slice A3 w3.length c3, .int .i64 (f3 : Int), .int .i64 (n3 : Int), mv3] 57, row A3 w3.length c3 (ci .i64 w3) 3 1, rde A19 (ci .i64 ((xs ++ [(gx acts i).2]) ++ [i])), blk g3 [.slice A1 q1.length c1, .int .i64 (f1 : Int), .int .i64 (n1 : Int)] 54, row A1 q1.length c1 (ci .i64 q1) 3 1, rde Ab (ci .i64 zs)] := HS.join (F := [mpo Try.prog 3 3 mv m F, blk g5 [.slice Aw ws.length cw, .int .i64 (fw : Int), .int .i64 (nw : Int), mv] 57, row Aw ws.length cw (ci .i64 ws) 3 1]) (G := [mpo Try.prog 3 3 mv3 m3 F3, blk g5 [.slice A3 w3.length c3, .int .i64 (f3 : Int), .int .i64 (n3 : Int), mv3] 57, row A3 w3.length c3 (ci .i64 w3) 3 1]) H_
          clear H_
          have hwl2 := hwn.len
          simp only [List.length_append, List.length_cons, List.length_nil] at hwl2
          refine t_c (n := 1) 12 (f := 39) (args := #[.slice Ab zs.length cb, .int .i64 ((gx acts i).2)]) rfl (by kernel_rfl) (by kernel_rfl) (R_call #[.slice Ab zs.length cb, .int .i64 ((gx acts i).2)] Try.func39 (by kernel_rfl) (by kernel_rfl) (by kernel_rfl)) ?_
          refine (rhas_no _ _ zs ((gx acts i).2) _ (HS.get (i := 6) rfl) (by omega) hin).mono ?_
          rintro e W29 ⟨rfl, H_⟩
          refine ⟨_, rfl, HK.tr H_.kept.nil, ?_⟩
          replace HK := HK.tr H_.kept.nil
          replace HS : St W (owns []) W29 [mpo Try.prog 3 3 mv3 m3 F3, blk g5 [.slice A3 w3.length c3, .int .i64 (f3 : Int), .int .i64 (n3 : Int), mv3] 57, row A3 w3.length c3 (ci .i64 w3) 3 1, rde A19 (ci .i64 ((xs ++ [(gx acts i).2]) ++ [i])), blk g3 [.slice A1 q1.length c1, .int .i64 (f1 : Int), .int .i64 (n1 : Int)] 54, row A1 q1.length c1 (ci .i64 q1) 3 1, rde Ab (ci .i64 zs)] := HS.join (F := []) (G := []) H_
          clear H_
          refine t_q (n := 0) 13 (.bool false) rfl (by kernel_rfl) (by kernel_rfl) (fun _ _ _ h => h) (fun w' hk => (by kernel_rfl)) HK ?_
          refine t_done (by kernel_rfl) ?_
          clear HV HK
          refine x_then ?_
          refine wp_cond_false (by kernel_rfl) ?_
          refine wp_skip ?_
          refine x_then ?_
          refine wp_seq ?_
          refine wp_region_lit ?_
          refine ql (.slice Ab zs.length cb) (by kernel_rfl) (by kernel_rfl) ?_
          refine ql (.slice (some ad11) acts.length c) (by kernel_rfl) (by kernel_rfl) ?_
          refine ql (.int .i64 i) (by kernel_rfl) (by kernel_rfl) ?_
          refine ql (.pointer (some (ad11.add (i.toNat * 2)))) (by kernel_rfl) (R_indexA (k := .i64) (p := ad11) (n := acts.length) (c := c) (i := i) (by kernel_rfl) (by kernel_rfl) Try.underlying52 (by kernel_rfl) (by omega) (by omega)) ?_
          refine ql (.pointer (some ((ad11.add (i.toNat * 2)).add 1))) (by kernel_rfl) (by kernel_rfl) ?_
          refine ql (.int .i64 ((gx acts i).2)) (by kernel_rfl) (R_load (p := (ad11.add (i.toNat * 2)).add 1) (by kernel_rfl) (by kernel_rfl) (by kernel_rfl) (HS.old0 (Rd.elem1 (k := 1) (f := actC) (fun _ => rfl) hr (gx_eq (by omega) (by omega)) rfl))) ?_
          refine qc (f := 39) (args := #[.slice Ab zs.length cb, .int .i64 ((gx acts i).2)]) (by kernel_rfl) (R_call #[.slice Ab zs.length cb, .int .i64 ((gx acts i).2)] Try.func39 (by kernel_rfl) (by kernel_rfl) (by kernel_rfl)) ?_
          refine (rhas_no _ _ zs ((gx acts i).2) _ (HS.get (i := 6) rfl) (by omega) hin).mono ?_
          rintro e W30 ⟨rfl, H_⟩
          refine ⟨_, rfl, ?_⟩
          replace HS : St W (owns []) W30 [mpo Try.prog 3 3 mv3 m3 F3, blk g5 [.slice A3 w3.length c3, .int .i64 (f3 : Int), .int .i64 (n3 : Int), mv3] 57, row A3 w3.length c3 (ci .i64 w3) 3 1, rde A19 (ci .i64 ((xs ++ [(gx acts i).2]) ++ [i])), blk g3 [.slice A1 q1.length c1, .int .i64 (f1 : Int), .int .i64 (n1 : Int)] 54, row A1 q1.length c1 (ci .i64 q1) 3 1, rde Ab (ci .i64 zs)] := HS.join (F := []) (G := []) H_
          clear H_
          refine ql (.bool true) (by kernel_rfl) (by kernel_rfl) ?_
          refine wpList_nil ?_
          refine x_then ?_
          refine wp_cond_true (by kernel_rfl) ?_
          refine wp_region_lit ?_
          refine ql (.slice Ab zs.length cb) (by kernel_rfl) (by kernel_rfl) ?_
          refine ql (.slice (some ad11) acts.length c) (by kernel_rfl) (by kernel_rfl) ?_
          refine ql (.int .i64 i) (by kernel_rfl) (by kernel_rfl) ?_
          refine ql (.pointer (some (ad11.add (i.toNat * 2)))) (by kernel_rfl) (R_indexA (k := .i64) (p := ad11) (n := acts.length) (c := c) (i := i) (by kernel_rfl) (by kernel_rfl) Try.underlying52 (by kernel_rfl) (by omega) (by omega)) ?_
          refine ql (.pointer (some ((ad11.add (i.toNat * 2)).add 1))) (by kernel_rfl) (by kernel_rfl) ?_
          refine ql (.int .i64 ((gx acts i).2)) (by kernel_rfl) (R_load (p := (ad11.add (i.toNat * 2)).add 1) (by kernel_rfl) (by kernel_rfl) (by kernel_rfl) (HS.old0 (Rd.elem1 (k := 1) (f := actC) (fun _ => rfl) hr (gx_eq (by omega) (by omega)) rfl))) ?_
          refine qc (f := 37) (args := #[.slice Ab zs.length cb, .int .i64 ((gx acts i).2)]) (by kernel_rfl) (R_call #[.slice Ab zs.length cb, .int .i64 ((gx acts i).2)] Try.func37 (by kernel_rfl) (by kernel_rfl) (by kernel_rfl)) ?_
          refine (rput _ _ zs ((gx acts i).2) _ (HS.get (i := 6) rfl) (by first | omega | (simp only [List.length_append, List.length_cons, List.length_nil]; omega))).mono ?_
          rintro e W33 ⟨A31, c32, rfl, H_⟩
          refine ⟨_, rfl, ?_⟩
          replace HS : St W (owns []) W33 [row A31 ((zs ++ [(gx acts i).2]).length) c32 (ci .i64 (zs ++ [(gx acts i).2])) 3 1, mpo Try.prog 3 3 mv3 m3 F3, blk g5 [.slice A3 w3.length c3, .int .i64 (f3 : Int), .int .i64 (n3 : Int), mv3] 57, row A3 w3.length c3 (ci .i64 w3) 3 1, rde A19 (ci .i64 ((xs ++ [(gx acts i).2]) ++ [i])), blk g3 [.slice A1 q1.length c1, .int .i64 (f1 : Int), .int .i64 (n1 : Int)] 54, row A1 q1.length c1 (ci .i64 q1) 3 1, rde Ab (ci .i64 zs)] := HS.join (F := []) (G := [row A31 ((zs ++ [(gx acts i).2]).length) c32 (ci .i64 (zs ++ [(gx acts i).2])) 3 1]) H_
          clear H_
          have hcA31 := (St.rcap HS (i := 0) rfl).1
          simp only [List.length_append, List.length_cons, List.length_nil] at hcA31
          replace HS : St W (owns []) W33 [rde A31 (ci .i64 (zs ++ [(gx acts i).2])), mpo Try.prog 3 3 mv3 m3 F3, blk g5 [.slice A3 w3.length c3, .int .i64 (f3 : Int), .int .i64 (n3 : Int), mv3] 57, row A3 w3.length c3 (ci .i64 w3) 3 1, rde A19 (ci .i64 ((xs ++ [(gx acts i).2]) ++ [i])), blk g3 [.slice A1 q1.length c1, .int .i64 (f1 : Int), .int .i64 (n1 : Int)] 54, row A1 q1.length c1 (ci .i64 q1) 3 1, rde Ab (ci .i64 zs)] := HS.to_rde (i := 0) rfl
          replace HS : St W (owns []) W33 [rde A31 (ci .i64 (zs ++ [(gx acts i).2])), mpo Try.prog 3 3 mv3 m3 F3, blk g5 [.slice A3 w3.length c3, .int .i64 (f3 : Int), .int .i64 (n3 : Int), mv3] 57, row A3 w3.length c3 (ci .i64 w3) 3 1, rde A19 (ci .i64 ((xs ++ [(gx acts i).2]) ++ [i])), blk g3 [.slice A1 q1.length c1, .int .i64 (f1 : Int), .int .i64 (n1 : Int)] 54, row A1 q1.length c1 (ci .i64 q1) 3 1] := St.tail (F := [rde Ab (ci .i64 zs)]) (HS.perm (perm_ [7, 0, 1, 2, 3, 4, 5, 6] (by kernel_rfl) rfl))
          refine ql (.slice A31 ((zs ++ [(gx acts i).2]).length) c32) (by kernel_rfl) (by kernel_rfl) ?_
          refine wpList_nil ?_
          refine x_then ?_
          refine wp_seq ?_
          refine wp_seq ?_
          refine wp_region_lit ?_
          refine ql (.slice (some ad11) acts.length c) (by kernel_rfl) (by kernel_rfl) ?_
          refine ql (.int .i64 i) (by kernel_rfl) (by kernel_rfl) ?_
          refine ql (.pointer (some (ad11.add (i.toNat * 2)))) (by kernel_rfl) (R_indexA (k := .i64) (p := ad11) (n := acts.length) (c := c) (i := i) (by kernel_rfl) (by kernel_rfl) Try.underlying52 (by kernel_rfl) (by omega) (by omega)) ?_
          refine ql (.pointer (some (ad11.add (i.toNat * 2)))) (by kernel_rfl) (by kernel_rfl) ?_
          refine ql (.int .i64 ((gx acts i).1)) (by kernel_rfl) (R_load (p := ad11.add (i.toNat * 2)) (by kernel_rfl) (by kernel_rfl) (by kernel_rfl) (HS.old0 (Rd.elem0 (f := actC) (fun _ => rfl) hr (gx_eq (by omega) (by omega)) rfl))) ?_
          refine ql (.bool false) (by kernel_rfl) (R_beq (b := ((gx acts i).1 == (1 : Int))) (by kernel_rfl) (beq_f (by omega))) ?_
          refine wpList_nil ?_
          refine x_then ?_
          refine wp_cond_false (by kernel_rfl) ?_
          refine wp_skip ?_
          refine x_then ?_
          refine wp_seq ?_
          refine wp_region_lit ?_
          refine qc (f := 43) (args := #[.pointer (some ⟨g3, 0, none⟩)]) (by kernel_rfl) (R_call #[.pointer (some ⟨g3, 0, none⟩)] Try.func43 (by kernel_rfl) (by kernel_rfl) (by kernel_rfl)) ?_
          refine (qlen g3 n1 _ (HS.cell (i := 5) (j := 2) rfl rfl)).mono ?_
          rintro e W34 ⟨rfl, H_⟩
          refine ⟨_, rfl, ?_⟩
          replace HS : St W (owns []) W34 [rde A31 (ci .i64 (zs ++ [(gx acts i).2])), mpo Try.prog 3 3 mv3 m3 F3, blk g5 [.slice A3 w3.length c3, .int .i64 (f3 : Int), .int .i64 (n3 : Int), mv3] 57, row A3 w3.length c3 (ci .i64 w3) 3 1, rde A19 (ci .i64 ((xs ++ [(gx acts i).2]) ++ [i])), blk g3 [.slice A1 q1.length c1, .int .i64 (f1 : Int), .int .i64 (n1 : Int)] 54, row A1 q1.length c1 (ci .i64 q1) 3 1] := HS.join (F := []) (G := []) H_
          clear H_
          refine ql (.slice A19 (((xs ++ [(gx acts i).2]) ++ [i]).length) c20) (by kernel_rfl) (by kernel_rfl) ?_
          refine ql (.int .i64 (((xs ++ [(gx acts i).2]) ++ [i]).length : Int)) (by kernel_rfl) (by kernel_rfl) ?_
          refine ql (.bool false) (by kernel_rfl) (R_beq (b := ((n1 : Int) != (((xs ++ [(gx acts i).2]) ++ [i]).length : Int))) (by kernel_rfl) (bne_f (by have h1_ := RQ.len hqm; (try simp only [List.length_append, List.length_cons, List.length_nil, len_tail] at *); omega))) ?_
          refine ql (.bool false) (by kernel_rfl) (by kernel_rfl) ?_
          refine qc (f := 44) (args := #[.pointer (some ⟨g5, 0, none⟩)]) (by kernel_rfl) (R_call #[.pointer (some ⟨g5, 0, none⟩)] Try.func44 (by kernel_rfl) (by kernel_rfl) (by kernel_rfl)) ?_
          refine (wlen g5 n3 _ (HS.cell (i := 2) (j := 2) rfl rfl)).mono ?_
          rintro e W35 ⟨rfl, H_⟩
          refine ⟨_, rfl, ?_⟩
          replace HS : St W (owns []) W35 [rde A31 (ci .i64 (zs ++ [(gx acts i).2])), mpo Try.prog 3 3 mv3 m3 F3, blk g5 [.slice A3 w3.length c3, .int .i64 (f3 : Int), .int .i64 (n3 : Int), mv3] 57, row A3 w3.length c3 (ci .i64 w3) 3 1, rde A19 (ci .i64 ((xs ++ [(gx acts i).2]) ++ [i])), blk g3 [.slice A1 q1.length c1, .int .i64 (f1 : Int), .int .i64 (n1 : Int)] 54, row A1 q1.length c1 (ci .i64 q1) 3 1] := HS.join (F := []) (G := []) H_
          clear H_
          refine ql (.slice A31 ((zs ++ [(gx acts i).2]).length) c32) (by kernel_rfl) (by kernel_rfl) ?_
          refine ql (.int .i64 ((zs ++ [(gx acts i).2]).length : Int)) (by kernel_rfl) (by kernel_rfl) ?_
          refine ql (.bool false) (by kernel_rfl) (R_beq (b := ((n3 : Int) != ((zs ++ [(gx acts i).2]).length : Int))) (by kernel_rfl) (bne_f (by have h1_ := RQ.len hwn; (try simp only [List.length_append, List.length_cons, List.length_nil, len_tail] at *); omega))) ?_
          refine ql (.bool false) (by kernel_rfl) (by kernel_rfl) ?_
          refine wpList_nil ?_
          refine x_then ?_
          refine wp_cond_false (by kernel_rfl) ?_
          refine wp_skip ?_
          refine x_inb ?_
          refine x_then ?_
          refine wp_region_lit ?_
          refine ql (.int .i64 i) (by kernel_rfl) (by kernel_rfl) ?_
          refine ql (.int .i64 (i + 1)) (by kernel_rfl) (R_int (by kernel_rfl) (w64 (by omega))) ?_
          refine ql (.int .i64 (i + 1)) (by kernel_rfl) (by kernel_rfl) ?_
          refine wpList_nil ?_
          replace HS : St W (owns []) W35 [mpo Try.prog 3 3 mv3 m3 F3, blk g5 [.slice A3 w3.length c3, .int .i64 (f3 : Int), .int .i64 (n3 : Int), mv3] 57, row A3 w3.length c3 (ci .i64 w3) 3 1, blk g3 [.slice A1 q1.length c1, .int .i64 (f1 : Int), .int .i64 (n1 : Int)] 54, row A1 q1.length c1 (ci .i64 q1) 3 1, rde A19 (ci .i64 ((xs ++ [(gx acts i).2]) ++ [i])), rde A31 (ci .i64 (zs ++ [(gx acts i).2]))] := St.tail (F := []) (HS.perm (perm_ [1, 2, 3, 5, 6, 4, 0] (by kernel_rfl) rfl))
          refine x_then ?_
          exact ⟨acts.length - (i + 1).toNat, by omega, (fun k_ : Nat => List.getD ((.slice (some ad11) acts.length c) :: undef :: ((J7 2)) :: (.pointer (some ⟨g3, 0, none⟩)) :: (.pointer (some ⟨g5, 0, none⟩)) :: (.slice A19 (((xs ++ [(gx acts i).2]) ++ [i]).length) c20) :: (.slice A31 ((zs ++ [(gx acts i).2]).length) c32) :: (.int .i64 (i + 1)) :: ((J7 8)) :: ((J7 9)) :: ((J7 10)) :: ((J7 11)) :: ((J7 12)) :: ((J7 13)) :: ((J7 14)) :: ((J7 15)) :: ((J7 16)) :: ((J7 17)) :: (.slice (some ad11) acts.length c) :: (.int .i64 (acts.length : Int)) :: (.bool false) :: undef :: (.int .i64 i) :: (.slice (some ad11) acts.length c) :: (.int .i64 (acts.length : Int)) :: (.bool true) :: (.int .i64 i) :: (.int .i64 (i + 1)) :: (.slice (some ad11) acts.length c) :: (.int .i64 i) :: (.pointer (some (ad11.add (i.toNat * 2)))) :: (.pointer (some (ad11.add (i.toNat * 2)))) :: (.int .i64 ((gx acts i).1)) :: (.bool true) :: (.slice (some ad11) acts.length c) :: (.int .i64 i) :: (.pointer (some (ad11.add (i.toNat * 2)))) :: (.pointer (some ((ad11.add (i.toNat * 2)).add 1))) :: (.int .i64 ((gx acts i).2)) :: (.int .i64 i) :: (.slice (some ⟨g13, 0, none⟩) 2 2) :: (.tuple #[]) :: (.slice Aa xs.length ca) :: (.slice (some ad11) acts.length c) :: (.int .i64 i) :: (.pointer (some (ad11.add (i.toNat * 2)))) :: (.pointer (some ((ad11.add (i.toNat * 2)).add 1))) :: (.int .i64 ((gx acts i).2)) :: (.slice A16 ((xs ++ [(gx acts i).2]).length) c17) :: (.int .i64 i) :: (.slice A19 (((xs ++ [(gx acts i).2]) ++ [i]).length) c20) :: (.slice (some ad11) acts.length c) :: (.int .i64 i) :: (.pointer (some (ad11.add (i.toNat * 2)))) :: (.pointer (some ((ad11.add (i.toNat * 2)).add 1))) :: (.int .i64 ((gx acts i).2)) :: (.bool true) :: (.slice Ab zs.length cb) :: (.slice (some ad11) acts.length c) :: (.int .i64 i) :: (.pointer (some (ad11.add (i.toNat * 2)))) :: (.pointer (some ((ad11.add (i.toNat * 2)).add 1))) :: (.int .i64 ((gx acts i).2)) :: (.bool false) :: (.bool false) :: (.slice Ab zs.length cb) :: (.slice (some ad11) acts.length c) :: (.int .i64 i) :: (.pointer (some (ad11.add (i.toNat * 2)))) :: (.pointer (some ((ad11.add (i.toNat * 2)).add 1))) :: (.int .i64 ((gx acts i).2)) :: (.bool false) :: (.bool true) :: (.slice Ab zs.length cb) :: (.slice (some ad11) acts.length c) :: (.int .i64 i) :: (.pointer (some (ad11.add (i.toNat * 2)))) :: (.pointer (some ((ad11.add (i.toNat * 2)).add 1))) :: (.int .i64 ((gx acts i).2)) :: (.slice A31 ((zs ++ [(gx acts i).2]).length) c32) :: (.slice (some ad11) acts.length c) :: (.int .i64 i) :: (.pointer (some (ad11.add (i.toNat * 2)))) :: (.pointer (some (ad11.add (i.toNat * 2)))) :: (.int .i64 ((gx acts i).1)) :: (.bool false) :: ((J7 86)) :: ((J7 87)) :: ((J7 88)) :: ((J7 89)) :: ((J7 90)) :: ((J7 91)) :: ((J7 92)) :: ((J7 93)) :: ((J7 94)) :: ((J7 95)) :: ((J7 96)) :: ((J7 97)) :: ((J7 98)) :: ((J7 99)) :: ((J7 100)) :: ((J7 101)) :: ((J7 102)) :: ((J7 103)) :: ((J7 104)) :: ((J7 105)) :: ((J7 106)) :: ((J7 107)) :: ((J7 108)) :: ((J7 109)) :: ((J7 110)) :: ((J7 111)) :: ((J7 112)) :: ((J7 113)) :: ((J7 114)) :: ((J7 115)) :: ((J7 116)) :: ((J7 117)) :: ((J7 118)) :: ((J7 119)) :: ((J7 120)) :: ((J7 121)) :: ((J7 122)) :: ((J7 123)) :: ((J7 124)) :: ((J7 125)) :: (.int .i64 (n1 : Int)) :: (.slice A19 (((xs ++ [(gx acts i).2]) ++ [i]).length) c20) :: (.int .i64 (((xs ++ [(gx acts i).2]) ++ [i]).length : Int)) :: (.bool false) :: (.bool false) :: (.int .i64 (n3 : Int)) :: (.slice A31 ((zs ++ [(gx acts i).2]).length) c32) :: (.int .i64 ((zs ++ [(gx acts i).2]).length : Int)) :: (.bool false) :: (.bool false) :: undef :: []) k_ undef), i + 1, A1, c1, f1, n1, q1, ((xs ++ [(gx acts i).2]) ++ [i]), mv3, m3, F3, A3, c3, f3, n3, w3, (zs ++ [(gx acts i).2]), A19, c20, A31, c32, congrArg Fr (by kernel_rfl), rfl, by omega, by omega, hqm, hwn, hHn, (nodup_snoc hnd hin), by (try simp only [List.length_append, List.length_cons, List.length_nil, len_tail]); omega, by (try simp only [List.length_append, List.length_cons, List.length_nil, len_tail]); omega, by omega, by (try simp only [List.length_append, List.length_cons, List.length_nil, len_tail]); omega, by (try simp only [List.length_append, List.length_cons, List.length_nil, len_tail]); omega, (fun x hx => by rcases List.mem_append.1 hx with h9 | h9; exact hrz x h9; rw [List.mem_singleton] at h9; rw [h9]; exact hvr), HS⟩
      · skip
        refine ql (.bool false) (by kernel_rfl) (R_beq (b := ((gx acts i).1 == (0 : Int))) (by kernel_rfl) (beq_f (hc12))) ?_
        refine wpList_nil ?_
        refine x_then ?_
        refine wp_cond_false (by kernel_rfl) ?_
        refine wp_skip ?_
        refine x_then ?_
        refine wp_seq ?_
        refine wp_seq ?_
        refine wp_region_lit ?_
        refine ql (.slice (some ad11) acts.length c) (by kernel_rfl) (by kernel_rfl) ?_
        refine ql (.int .i64 i) (by kernel_rfl) (by kernel_rfl) ?_
        refine ql (.pointer (some (ad11.add (i.toNat * 2)))) (by kernel_rfl) (R_indexA (k := .i64) (p := ad11) (n := acts.length) (c := c) (i := i) (by kernel_rfl) (by kernel_rfl) Try.underlying52 (by kernel_rfl) (by omega) (by omega)) ?_
        refine ql (.pointer (some (ad11.add (i.toNat * 2)))) (by kernel_rfl) (by kernel_rfl) ?_
        refine ql (.int .i64 ((gx acts i).1)) (by kernel_rfl) (R_load (p := ad11.add (i.toNat * 2)) (by kernel_rfl) (by kernel_rfl) (by kernel_rfl) (HS.old0 (Rd.elem0 (f := actC) (fun _ => rfl) hr (gx_eq (by omega) (by omega)) rfl))) ?_
        by_cases hc36 : ((gx acts i).1) = (1 : Int)
        · skip
          refine ql (.bool true) (by kernel_rfl) (R_beq (b := ((gx acts i).1 == (1 : Int))) (by kernel_rfl) (beq_t (hc36))) ?_
          refine wpList_nil ?_
          refine x_then ?_
          refine wp_cond_true (by kernel_rfl) ?_
          refine wp_seq ?_
          refine wp_region_lit ?_
          refine qc (f := 40) (args := #[.pointer (some ⟨g3, 0, none⟩)]) (by kernel_rfl) (R_call #[.pointer (some ⟨g3, 0, none⟩)] Try.func40 (by kernel_rfl) (by kernel_rfl) (by kernel_rfl)) ?_
          replace HS : St W (owns []) W9 [blk g3 [.slice Aq qs_.length cq, .int .i64 (fq : Int), .int .i64 (nq : Int)] 54, row Aq qs_.length cq (ci .i64 qs_) 3 1, mpo Try.prog 3 3 mv m F, blk g5 [.slice Aw ws.length cw, .int .i64 (fw : Int), .int .i64 (nw : Int), mv] 57, row Aw ws.length cw (ci .i64 ws) 3 1, rde Aa (ci .i64 xs), rde Ab (ci .i64 zs)] := HS.perm (perm_ [3, 4, 0, 1, 2, 5, 6] (by kernel_rfl) rfl)
          by_cases hq0 : xs.length = 0
          · skip
            refine (qpop_nil g3 54 [] _ cq fq nq qs_ xs _ _ (St.focus (F := [blk g3 [.slice Aq qs_.length cq, .int .i64 (fq : Int), .int .i64 (nq : Int)] 54, row Aq qs_.length cq (ci .i64 qs_) 3 1]) HS) hq (List.eq_nil_of_length_eq_zero hq0)).mono ?_
            rintro e W37 ⟨rfl, H_⟩
            refine ⟨_, rfl, ?_⟩
            replace HS : St W (owns []) W37 [blk g3 [.slice Aq qs_.length cq, .int .i64 (fq : Int), .int .i64 (nq : Int)] 54, row Aq qs_.length cq (ci .i64 qs_) 3 1, mpo Try.prog 3 3 mv m F, blk g5 [.slice Aw ws.length cw, .int .i64 (fw : Int), .int .i64 (nw : Int), mv] 57, row Aw ws.length cw (ci .i64 ws) 3 1, rde Aa (ci .i64 xs), rde Ab (ci .i64 zs)] := HS.join (F := [blk g3 [.slice Aq qs_.length cq, .int .i64 (fq : Int), .int .i64 (nq : Int)] 54, row Aq qs_.length cq (ci .i64 qs_) 3 1]) (G := [blk g3 [.slice Aq qs_.length cq, .int .i64 (fq : Int), .int .i64 (nq : Int)] 54, row Aq qs_.length cq (ci .i64 qs_) 3 1]) H_
            clear H_
            refine ql (.tuple #[.int .i64 0, .bool false]) (by kernel_rfl) (by kernel_rfl) ?_
            refine ql (.int .i64 0) (by kernel_rfl) (by kernel_rfl) ?_
            refine ql (.bool false) (by kernel_rfl) (by kernel_rfl) ?_
            refine ql (.int .i64 0) (by kernel_rfl) (by kernel_rfl) ?_
            refine ql (.bool false) (by kernel_rfl) (by kernel_rfl) ?_
            refine wpList_nil ?_
            refine x_then ?_
            refine wp_seq ?_
            refine wp_region_lit ?_
            refine ql (.slice Aa xs.length ca) (by kernel_rfl) (by kernel_rfl) ?_
            refine qc (f := 41) (args := #[.slice Aa xs.length ca]) (by kernel_rfl) (R_call #[.slice Aa xs.length ca] Try.func41 (by kernel_rfl) (by kernel_rfl) (by kernel_rfl)) ?_
            refine (first_nil _ _ xs _ (HS.get (i := 5) rfl) (by omega) (by omega) (by omega)).mono ?_
            rintro e W38 ⟨rfl, H_⟩
            refine ⟨_, rfl, ?_⟩
            replace HS : St W (owns []) W38 [blk g3 [.slice Aq qs_.length cq, .int .i64 (fq : Int), .int .i64 (nq : Int)] 54, row Aq qs_.length cq (ci .i64 qs_) 3 1, mpo Try.prog 3 3 mv m F, blk g5 [.slice Aw ws.length cw, .int .i64 (fw : Int), .int .i64 (nw : Int), mv] 57, row Aw ws.length cw (ci .i64 ws) 3 1, rde Aa (ci .i64 xs), rde Ab (ci .i64 zs)] := HS.join (F := []) (G := []) H_
            clear H_
            refine ql (.tuple #[.slice Aa xs.length ca, .int .i64 0, .bool false]) (by kernel_rfl) (by kernel_rfl) ?_
            refine ql (.slice Aa xs.length ca) (by kernel_rfl) (by kernel_rfl) ?_
            refine ql (.int .i64 0) (by kernel_rfl) (by kernel_rfl) ?_
            refine ql (.bool false) (by kernel_rfl) (by kernel_rfl) ?_
            refine ql (.slice Aa xs.length ca) (by kernel_rfl) (by kernel_rfl) ?_
            refine ql (.int .i64 0) (by kernel_rfl) (by kernel_rfl) ?_
            refine ql (.bool false) (by kernel_rfl) (by kernel_rfl) ?_
            refine wpList_nil ?_
            refine x_then ?_
            refine wp_seq ?_
            refine wp_region_lit ?_
            refine qc (f := 42) (args := #[.pointer (some ⟨g5, 0, none⟩)]) (by kernel_rfl) (R_call #[.pointer (some ⟨g5, 0, none⟩)] Try.func42 (by kernel_rfl) (by kernel_rfl) (by kernel_rfl)) ?_
            replace HS : St W (owns []) W38 [mpo Try.prog 3 3 mv m F, blk g5 [.slice Aw ws.length cw, .int .i64 (fw : Int), .int .i64 (nw : Int), mv] 57, row Aw ws.length cw (ci .i64 ws) 3 1, blk g3 [.slice Aq qs_.length cq, .int .i64 (fq : Int), .int .i64 (nq : Int)] 54, row Aq qs_.length cq (ci .i64 qs_) 3 1, rde Aa (ci .i64 xs), rde Ab (ci .i64 zs)] := HS.perm (perm_ [2, 3, 4, 0, 1, 5, 6] (by kernel_rfl) rfl)
            by_cases hw0 : zs.length = 0
            · skip
              replace HS : St W (owns []) W38 [blk g5 [.slice Aw ws.length cw, .int .i64 (fw : Int), .int .i64 (nw : Int), mv] 57, row Aw ws.length cw (ci .i64 ws) 3 1, mpo Try.prog 3 3 mv m F, blk g3 [.slice Aq qs_.length cq, .int .i64 (fq : Int), .int .i64 (nq : Int)] 54, row Aq qs_.length cq (ci .i64 qs_) 3 1, rde Aa (ci .i64 xs), rde Ab (ci .i64 zs)] := HS.perm (perm_ [1, 2, 0, 3, 4, 5, 6] (by kernel_rfl) rfl)
              refine (wpop_nil g5 57 _ cw fw nw ws zs _ _ mv (St.focus (F := [blk g5 [.slice Aw ws.length cw, .int .i64 (fw : Int), .int .i64 (nw : Int), mv] 57, row Aw ws.length cw (ci .i64 ws) 3 1]) HS) hw (List.eq_nil_of_length_eq_zero hw0)).mono ?_
              rintro e W39 ⟨rfl, H_⟩
              refine ⟨_, rfl, ?_⟩
              replace HS : St W (owns []) W39 [blk g5 [.slice Aw ws.length cw, .int .i64 (fw : Int), .int .i64 (nw : Int), mv] 57, row Aw ws.length cw (ci .i64 ws) 3 1, mpo Try.prog 3 3 mv m F, blk g3 [.slice Aq qs_.length cq, .int .i64 (fq : Int), .int .i64 (nq : Int)] 54, row Aq qs_.length cq (ci .i64 qs_) 3 1, rde Aa (ci .i64 xs), rde Ab (ci .i64 zs)] := HS.join (F := [blk g5 [.slice Aw ws.length cw, .int .i64 (fw : Int), .int .i64 (nw : Int), mv] 57, row Aw ws.length cw (ci .i64 ws) 3 1]) (G := [blk g5 [.slice Aw ws.length cw, .int .i64 (fw : Int), .int .i64 (nw : Int), mv] 57, row Aw ws.length cw (ci .i64 ws) 3 1]) H_
              clear H_
              refine ql (.tuple #[.int .i64 0, .bool false]) (by kernel_rfl) (by kernel_rfl) ?_
              refine ql (.int .i64 0) (by kernel_rfl) (by kernel_rfl) ?_
              refine ql (.bool false) (by kernel_rfl) (by kernel_rfl) ?_
              refine ql (.int .i64 0) (by kernel_rfl) (by kernel_rfl) ?_
              refine ql (.bool false) (by kernel_rfl) (by kernel_rfl) ?_
              refine wpList_nil ?_
              refine x_then ?_
              refine wp_seq ?_
              refine wp_region_lit ?_
              refine ql (.slice Ab zs.length cb) (by kernel_rfl) (by kernel_rfl) ?_
              refine qc (f := 41) (args := #[.slice Ab zs.length cb]) (by kernel_rfl) (R_call #[.slice Ab zs.length cb] Try.func41 (by kernel_rfl) (by kernel_rfl) (by kernel_rfl)) ?_
              refine (first_nil _ _ zs _ (HS.get (i := 6) rfl) (by omega) (by omega) (by omega)).mono ?_
              rintro e W40 ⟨rfl, H_⟩
              refine ⟨_, rfl, ?_⟩
              replace HS : St W (owns []) W40 [blk g5 [.slice Aw ws.length cw, .int .i64 (fw : Int), .int .i64 (nw : Int), mv] 57, row Aw ws.length cw (ci .i64 ws) 3 1, mpo Try.prog 3 3 mv m F, blk g3 [.slice Aq qs_.length cq, .int .i64 (fq : Int), .int .i64 (nq : Int)] 54, row Aq qs_.length cq (ci .i64 qs_) 3 1, rde Aa (ci .i64 xs), rde Ab (ci .i64 zs)] := HS.join (F := []) (G := []) H_
              clear H_
              refine ql (.tuple #[.slice Ab zs.length cb, .int .i64 0, .bool false]) (by kernel_rfl) (by kernel_rfl) ?_
              refine ql (.slice Ab zs.length cb) (by kernel_rfl) (by kernel_rfl) ?_
              refine ql (.int .i64 0) (by kernel_rfl) (by kernel_rfl) ?_
              refine ql (.bool false) (by kernel_rfl) (by kernel_rfl) ?_
              refine ql (.slice Ab zs.length cb) (by kernel_rfl) (by kernel_rfl) ?_
              refine ql (.int .i64 0) (by kernel_rfl) (by kernel_rfl) ?_
              refine ql (.bool false) (by kernel_rfl) (by kernel_rfl) ?_
              refine wpList_nil ?_
              refine x_then ?_
              refine wp_seq ?_
              refine wp_region_lit ?_
              refine ql (.slice Aa xs.length ca) (by kernel_rfl) (by kernel_rfl) ?_
              refine ql (.slice Aa xs.length ca) (by kernel_rfl) (by kernel_rfl) ?_
              refine wpList_nil ?_
              refine x_then ?_
              refine wp_seq ?_
              refine wp_region_lit ?_
              refine ql (.slice Ab zs.length cb) (by kernel_rfl) (by kernel_rfl) ?_
              refine ql (.slice Ab zs.length cb) (by kernel_rfl) (by kernel_rfl) ?_
              refine wpList_nil ?_
              refine x_then ?_
              refine wp_seq ?_
              refine wp_region_lit ?_
              refine ql (.int .i64 0) (by kernel_rfl) (by kernel_rfl) ?_
              refine ql (.int .i64 0) (by kernel_rfl) (by kernel_rfl) ?_
              refine ql (.bool false) (by kernel_rfl) (R_beq (b := ((0 : Int) != 0)) (by kernel_rfl) (by decide)) ?_
              refine ql (.bool false) (by kernel_rfl) (by kernel_rfl) ?_
              refine ql (.bool false) (by kernel_rfl) (by kernel_rfl) ?_
              refine ql (.bool false) (by kernel_rfl) (by kernel_rfl) ?_
              refine ql (.bool false) (by kernel_rfl) (by kernel_rfl) ?_
              refine ql (.bool false) (by kernel_rfl) (by kernel_rfl) ?_
              refine ql (.bool false) (by kernel_rfl) (by kernel_rfl) ?_
              refine ql (.int .i64 0) (by kernel_rfl) (by kernel_rfl) ?_
              refine ql (.int .i64 0) (by kernel_rfl) (by kernel_rfl) ?_
              refine ql (.bool false) (by kernel_rfl) (R_beq (b := ((0 : Int) != 0)) (by kernel_rfl) (by decide)) ?_
              refine ql (.bool false) (by kernel_rfl) (by kernel_rfl) ?_
              refine ql (.bool false) (by kernel_rfl) (by kernel_rfl) ?_
              refine ql (.bool false) (by kernel_rfl) (by kernel_rfl) ?_
              refine ql (.bool false) (by kernel_rfl) (by kernel_rfl) ?_
              refine ql (.bool false) (by kernel_rfl) (by kernel_rfl) ?_
              refine ql (.bool false) (by kernel_rfl) (by kernel_rfl) ?_
              refine wpList_nil ?_
              refine x_then ?_
              refine wp_cond_false (by kernel_rfl) ?_
              refine wp_skip ?_
              refine x_then ?_
              refine wp_seq ?_
              refine wp_region_lit ?_
              refine qc (f := 43) (args := #[.pointer (some ⟨g3, 0, none⟩)]) (by kernel_rfl) (R_call #[.pointer (some ⟨g3, 0, none⟩)] Try.func43 (by kernel_rfl) (by kernel_rfl) (by kernel_rfl)) ?_
              refine (qlen g3 nq _ (HS.cell (i := 3) (j := 2) rfl rfl)).mono ?_
              rintro e W41 ⟨rfl, H_⟩
              refine ⟨_, rfl, ?_⟩
              replace HS : St W (owns []) W41 [blk g5 [.slice Aw ws.length cw, .int .i64 (fw : Int), .int .i64 (nw : Int), mv] 57, row Aw ws.length cw (ci .i64 ws) 3 1, mpo Try.prog 3 3 mv m F, blk g3 [.slice Aq qs_.length cq, .int .i64 (fq : Int), .int .i64 (nq : Int)] 54, row Aq qs_.length cq (ci .i64 qs_) 3 1, rde Aa (ci .i64 xs), rde Ab (ci .i64 zs)] := HS.join (F := []) (G := []) H_
              clear H_
              refine ql (.slice Aa xs.length ca) (by kernel_rfl) (by kernel_rfl) ?_
              refine ql (.int .i64 (xs.length : Int)) (by kernel_rfl) (by kernel_rfl) ?_
              refine ql (.bool false) (by kernel_rfl) (R_beq (b := ((nq : Int) != (xs.length : Int))) (by kernel_rfl) (bne_f (by have h1_ := RQ.len hq; (try simp only [List.length_append, List.length_cons, List.length_nil, len_tail] at *); omega))) ?_
              refine ql (.bool false) (by kernel_rfl) (by kernel_rfl) ?_
              refine qc (f := 44) (args := #[.pointer (some ⟨g5, 0, none⟩)]) (by kernel_rfl) (R_call #[.pointer (some ⟨g5, 0, none⟩)] Try.func44 (by kernel_rfl) (by kernel_rfl) (by kernel_rfl)) ?_
              refine (wlen g5 nw _ (HS.cell (i := 0) (j := 2) rfl rfl)).mono ?_
              rintro e W42 ⟨rfl, H_⟩
              refine ⟨_, rfl, ?_⟩
              replace HS : St W (owns []) W42 [blk g5 [.slice Aw ws.length cw, .int .i64 (fw : Int), .int .i64 (nw : Int), mv] 57, row Aw ws.length cw (ci .i64 ws) 3 1, mpo Try.prog 3 3 mv m F, blk g3 [.slice Aq qs_.length cq, .int .i64 (fq : Int), .int .i64 (nq : Int)] 54, row Aq qs_.length cq (ci .i64 qs_) 3 1, rde Aa (ci .i64 xs), rde Ab (ci .i64 zs)] := HS.join (F := []) (G := []) H_
              clear H_
              refine ql (.slice Ab zs.length cb) (by kernel_rfl) (by kernel_rfl) ?_
              refine ql (.int .i64 (zs.length : Int)) (by kernel_rfl) (by kernel_rfl) ?_
              refine ql (.bool false) (by kernel_rfl) (R_beq (b := ((nw : Int) != (zs.length : Int))) (by kernel_rfl) (bne_f (by have h1_ := RQ.len hw; (try simp only [List.length_append, List.length_cons, List.length_nil, len_tail] at *); omega))) ?_
              refine ql (.bool false) (by kernel_rfl) (by kernel_rfl) ?_
              refine wpList_nil ?_
              refine x_then ?_
              refine wp_cond_false (by kernel_rfl) ?_
              refine wp_skip ?_
              refine x_inb ?_
              refine x_then ?_
              refine wp_region_lit ?_
              refine ql (.int .i64 i) (by kernel_rfl) (by kernel_rfl) ?_
              refine ql (.int .i64 (i + 1)) (by kernel_rfl) (R_int (by kernel_rfl) (w64 (by omega))) ?_
              refine ql (.int .i64 (i + 1)) (by kernel_rfl) (by kernel_rfl) ?_
              refine wpList_nil ?_
              replace HS : St W (owns []) W42 [mpo Try.prog 3 3 mv m F, blk g5 [.slice Aw ws.length cw, .int .i64 (fw : Int), .int .i64 (nw : Int), mv] 57, row Aw ws.length cw (ci .i64 ws) 3 1, blk g3 [.slice Aq qs_.length cq, .int .i64 (fq : Int), .int .i64 (nq : Int)] 54, row Aq qs_.length cq (ci .i64 qs_) 3 1, rde Aa (ci .i64 xs), rde Ab (ci .i64 zs)] := St.tail (F := []) (HS.perm (perm_ [2, 0, 1, 3, 4, 5, 6] (by kernel_rfl) rfl))
              refine x_then ?_
              exact ⟨acts.length - (i + 1).toNat, by omega, (fun k_ : Nat => List.getD ((.slice (some ad11) acts.length c) :: undef :: ((J7 2)) :: (.pointer (some ⟨g3, 0, none⟩)) :: (.pointer (some ⟨g5, 0, none⟩)) :: (.slice Aa xs.length ca) :: (.slice Ab zs.length cb) :: (.int .i64 (i + 1)) :: (.int .i64 0) :: (.bool false) :: (.slice Aa xs.length ca) :: (.int .i64 0) :: (.bool false) :: (.int .i64 0) :: (.bool false) :: (.slice Ab zs.length cb) :: (.int .i64 0) :: (.bool false) :: (.slice (some ad11) acts.length c) :: (.int .i64 (acts.length : Int)) :: (.bool false) :: undef :: (.int .i64 i) :: (.slice (some ad11) acts.length c) :: (.int .i64 (acts.length : Int)) :: (.bool true) :: (.int .i64 i) :: (.int .i64 (i + 1)) :: (.slice (some ad11) acts.length c) :: (.int .i64 i) :: (.pointer (some (ad11.add (i.toNat * 2)))) :: (.pointer (some (ad11.add (i.toNat * 2)))) :: (.int .i64 ((gx acts i).1)) :: (.bool false) :: ((J7 34)) :: ((J7 35)) :: ((J7 36)) :: ((J7 37)) :: ((J7 38)) :: ((J7 39)) :: ((J7 40)) :: ((J7 41)) :: ((J7 42)) :: ((J7 43)) :: ((J7 44)) :: ((J7 45)) :: ((J7 46)) :: ((J7 47)) :: ((J7 48)) :: ((J7 49)) :: ((J7 50)) :: ((J7 51)) :: ((J7 52)) :: ((J7 53)) :: ((J7 54)) :: ((J7 55)) :: ((J7 56)) :: ((J7 57)) :: ((J7 58)) :: ((J7 59)) :: ((J7 60)) :: ((J7 61)) :: ((J7 62)) :: ((J7 63)) :: ((J7 64)) :: ((J7 65)) :: ((J7 66)) :: ((J7 67)) :: ((J7 68)) :: ((J7 69)) :: ((J7 70)) :: ((J7 71)) :: ((J7 72)) :: ((J7 73)) :: ((J7 74)) :: ((J7 75)) :: ((J7 76)) :: ((J7 77)) :: ((J7 78)) :: ((J7 79)) :: (.slice (some ad11) acts.length c) :: (.int .i64 i) :: (.pointer (some (ad11.add (i.toNat * 2)))) :: (.pointer (some (ad11.add (i.toNat * 2)))) :: (.int .i64 ((gx acts i).1)) :: (.bool true) :: (.tuple #[.int .i64 0, .bool false]) :: (.tuple #[.int .i64 0, .bool false]) :: (.int .i64 0) :: (.bool false) :: (.tuple #[.slice Aa xs.length ca, .int .i64 0, .bool false]) :: (.slice Aa xs.length ca) :: (.tuple #[.slice Aa xs.length ca, .int .i64 0, .bool false]) :: (.slice Aa xs.length ca) :: (.int .i64 0) :: (.bool false) :: (.tuple #[.int .i64 0, .bool false]) :: (.tuple #[.int .i64 0, .bool false]) :: (.int .i64 0) :: (.bool false) :: (.tuple #[.slice Ab zs.length cb, .int .i64 0, .bool false]) :: (.slice Ab zs.length cb) :: (.tuple #[.slice Ab zs.length cb, .int .i64 0, .bool false]) :: (.slice Ab zs.length cb) :: (.int .i64 0) :: (.bool false) :: (.slice Aa xs.length ca) :: (.slice Ab zs.length cb) :: (.int .i64 0) :: (.int .i64 0) :: (.bool false) :: (.bool false) :: (.bool false) :: (.bool false) :: (.bool false) :: (.bool false) :: (.bool false) :: (.int .i64 0) :: (.int .i64 0) :: (.bool false) :: (.bool false) :: (.bool false) :: (.bool false) :: (.bool false) :: (.bool false) :: (.bool false) :: (.int .i64 (nq : Int)) :: (.slice Aa xs.length ca) :: (.int .i64 (xs.length : Int)) :: (.bool false) :: (.bool false) :: (.int .i64 (nw : Int)) :: (.slice Ab zs.length cb) :: (.int .i64 (zs.length : Int)) :: (.bool false) :: (.bool false) :: undef :: []) k_ undef), i + 1, Aq, cq, fq, nq, qs_, xs, mv, m, F, Aw, cw, fw, nw, ws, zs, Aa, ca, Ab, cb, congrArg Fr (by kernel_rfl), rfl, by omega, by omega, hq, hw, hH, hnd, by (try simp only [List.length_append, List.length_cons, List.length_nil, len_tail]); omega, by (try simp only [List.length_append, List.length_cons, List.length_nil, len_tail]); omega, by omega, by (try simp only [List.length_append, List.length_cons, List.length_nil, len_tail]); omega, by (try simp only [List.length_append, List.length_cons, List.length_nil, len_tail]); omega, hrz, HS⟩
            · skip
              refine (wpopM g5 57 Aw cw fw nw ws zs mv m F _ _ (St.focus (F := [mpo Try.prog 3 3 mv m F, blk g5 [.slice Aw ws.length cw, .int .i64 (fw : Int), .int .i64 (nw : Int), mv] 57, row Aw ws.length cw (ci .i64 ws) 3 1]) HS) hw hH hnd (by omega) (hrz _ (in_rdI (by omega) (by omega)))).mono ?_
              rintro e W43 ⟨F5, A5, c5, f5, w5, rfl, H_, hwn, hHn⟩
              refine ⟨_, rfl, ?_⟩
              replace HS : St W (owns []) W43 [mpo Try.prog 3 3 mv m F5, blk g5 [.slice A5 w5.length c5, .int .i64 (f5 : Int), .int .i64 ((nw - 1 : Nat) : Int), mv] 57, row A5 w5.length c5 (ci .i64 w5) 3 1, blk g3 [.slice Aq qs_.length cq, .int .i64 (fq : Int), .int .i64 (nq : Int)] 54, row Aq qs_.length cq (ci .i64 qs_) 3 1, rde Aa (ci .i64 xs), rde Ab (ci .i64 zs)] := HS.join (F := [mpo Try.prog 3 3 mv m F, blk g5 [.slice Aw ws.length cw, .int .i64 (fw : Int), .int .i64 (nw : Int), mv] 57, row Aw ws.length cw (ci .i64 ws) 3 1]) (G := [mpo Try.prog 3 3 mv m F5, blk g5 [.slice A5 w5.length c5, .int .i64 (f5 : Int), .int .i64 ((nw - 1 : Nat) : Int), mv] 57, row A5 w5.length c5 (ci .i64 w5) 3 1]) H_
              clear H_
              have hwl2 := hwn.len
              refine ql (.tuple #[.int .i64 (rdI zs 0), .bool true]) (by kernel_rfl) (by kernel_rfl) ?_
              refine ql (.int .i64 (rdI zs 0)) (by kernel_rfl) (by kernel_rfl) ?_
              refine ql (.bool true) (by kernel_rfl) (by kernel_rfl) ?_
              refine ql (.int .i64 (rdI zs 0)) (by kernel_rfl) (by kernel_rfl) ?_
              refine ql (.bool true) (by kernel_rfl) (by kernel_rfl) ?_
              refine wpList_nil ?_
              refine x_then ?_
              refine wp_seq ?_
              refine wp_region_lit ?_
              refine ql (.slice Ab zs.length cb) (by kernel_rfl) (by kernel_rfl) ?_
              refine qc (f := 41) (args := #[.slice Ab zs.length cb]) (by kernel_rfl) (R_call #[.slice Ab zs.length cb] Try.func41 (by kernel_rfl) (by kernel_rfl) (by kernel_rfl)) ?_
              refine (first_some _ _ zs _ (HS.get (i := 6) rfl) (by omega) (by omega) (by omega)).mono ?_
              rintro e W44 ⟨rfl, H_⟩
              refine ⟨_, rfl, ?_⟩
              replace HS : St W (owns []) W44 [mpo Try.prog 3 3 mv m F5, blk g5 [.slice A5 w5.length c5, .int .i64 (f5 : Int), .int .i64 ((nw - 1 : Nat) : Int), mv] 57, row A5 w5.length c5 (ci .i64 w5) 3 1, blk g3 [.slice Aq qs_.length cq, .int .i64 (fq : Int), .int .i64 (nq : Int)] 54, row Aq qs_.length cq (ci .i64 qs_) 3 1, rde Aa (ci .i64 xs), rde Ab (ci .i64 zs)] := HS.join (F := []) (G := []) H_
              clear H_
              replace HS : St W (owns []) W44 [mpo Try.prog 3 3 mv m F5, blk g5 [.slice A5 w5.length c5, .int .i64 (f5 : Int), .int .i64 ((nw - 1 : Nat) : Int), mv] 57, row A5 w5.length c5 (ci .i64 w5) 3 1, blk g3 [.slice Aq qs_.length cq, .int .i64 (fq : Int), .int .i64 (nq : Int)] 54, row Aq qs_.length cq (ci .i64 qs_) 3 1, rde Aa (ci .i64 xs), rde (cutA Ab cb 1 1) (ci .i64 zs.tail)] := (HS.rde_sub (i := 6) rfl (fun h_ => rd_cut (c := cb) (m := 1) h_ (by omega) (by rw [ci_len]; omega)) cutA_own).cast_ (by rw [ci_drop, List.drop_one]; rfl)
              refine ql (.tuple #[.slice (cutA Ab cb 1 1) zs.tail.length (cb - 1), .int .i64 (rdI zs 0), .bool true]) (by kernel_rfl) (by kernel_rfl) ?_
              refine ql (.slice (cutA Ab cb 1 1) zs.tail.length (cb - 1)) (by kernel_rfl) (by kernel_rfl) ?_
              refine ql (.int .i64 (rdI zs 0)) (by kernel_rfl) (by kernel_rfl) ?_
              refine ql (.bool true) (by kernel_rfl) (by kernel_rfl) ?_
              refine ql (.slice (cutA Ab cb 1 1) zs.tail.length (cb - 1)) (by kernel_rfl) (by kernel_rfl) ?_
              refine ql (.int .i64 (rdI zs 0)) (by kernel_rfl) (by kernel_rfl) ?_
              refine ql (.bool true) (by kernel_rfl) (by kernel_rfl) ?_
              refine wpList_nil ?_
              refine x_then ?_
              refine wp_seq ?_
              refine wp_region_lit ?_
              refine ql (.slice Aa xs.length ca) (by kernel_rfl) (by kernel_rfl) ?_
              refine ql (.slice Aa xs.length ca) (by kernel_rfl) (by kernel_rfl) ?_
              refine wpList_nil ?_
              refine x_then ?_
              refine wp_seq ?_
              refine wp_region_lit ?_
              refine ql (.slice (cutA Ab cb 1 1) zs.tail.length (cb - 1)) (by kernel_rfl) (by kernel_rfl) ?_
              refine ql (.slice (cutA Ab cb 1 1) zs.tail.length (cb - 1)) (by kernel_rfl) (by kernel_rfl) ?_
              refine wpList_nil ?_
              refine x_then ?_
              refine wp_seq ?_
              refine wp_region_lit ?_
              refine ql (.int .i64 0) (by kernel_rfl) (by kernel_rfl) ?_
              refine ql (.int .i64 0) (by kernel_rfl) (by kernel_rfl) ?_
              refine ql (.bool false) (by kernel_rfl) (R_beq (b := ((0 : Int) != 0)) (by kernel_rfl) (by decide)) ?_
              refine ql (.bool false) (by kernel_rfl) (by kernel_rfl) ?_
              refine ql (.bool false) (by kernel_rfl) (by kernel_rfl) ?_
              refine ql (.bool false) (by kernel_rfl) (by kernel_rfl) ?_
              refine ql (.bool false) (by kernel_rfl) (by kernel_rfl) ?_
              refine ql (.bool false) (by kernel_rfl) (by kernel_rfl) ?_
              refine ql (.bool false) (by kernel_rfl) (by kernel_rfl) ?_
              refine ql (.int .i64 (rdI zs 0)) (by kernel_rfl) (by kernel_rfl) ?_
              refine ql (.int .i64 (rdI zs 0)) (by kernel_rfl) (by kernel_rfl) ?_
              refine ql (.bool false) (by kernel_rfl) (R_beq (b := (rdI zs 0 != rdI zs 0)) (by kernel_rfl) (bne_f (by omega))) ?_
              refine ql (.bool false) (by kernel_rfl) (by kernel_rfl) ?_
              refine ql (.bool false) (by kernel_rfl) (by kernel_rfl) ?_
              refine ql (.bool true) (by kernel_rfl) (by kernel_rfl) ?_
              refine ql (.bool true) (by kernel_rfl) (by kernel_rfl) ?_
              refine ql (.bool false) (by kernel_rfl) (by kernel_rfl) ?_
              refine ql (.bool false) (by kernel_rfl) (by kernel_rfl) ?_
              refine wpList_nil ?_
              refine x_then ?_
              refine wp_cond_false (by kernel_rfl) ?_
              refine wp_skip ?_
              refine x_then ?_
              refine wp_seq ?_
              refine wp_region_lit ?_
              refine qc (f := 43) (args := #[.pointer (some ⟨g3, 0, none⟩)]) (by kernel_rfl) (R_call #[.pointer (some ⟨g3, 0, none⟩)] Try.func43 (by kernel_rfl) (by kernel_rfl) (by kernel_rfl)) ?_
              refine (qlen g3 nq _ (HS.cell (i := 3) (j := 2) rfl rfl)).mono ?_
              rintro e W45 ⟨rfl, H_⟩
              refine ⟨_, rfl, ?_⟩
              replace HS : St W (owns []) W45 [mpo Try.prog 3 3 mv m F5, blk g5 [.slice A5 w5.length c5, .int .i64 (f5 : Int), .int .i64 ((nw - 1 : Nat) : Int), mv] 57, row A5 w5.length c5 (ci .i64 w5) 3 1, blk g3 [.slice Aq qs_.length cq, .int .i64 (fq : Int), .int .i64 (nq : Int)] 54, row Aq qs_.length cq (ci .i64 qs_) 3 1, rde Aa (ci .i64 xs), rde (cutA Ab cb 1 1) (ci .i64 zs.tail)] := HS.join (F := []) (G := []) H_
              clear H_
              refine ql (.slice Aa xs.length ca) (by kernel_rfl) (by kernel_rfl) ?_
              refine ql (.int .i64 (xs.length : Int)) (by kernel_rfl) (by kernel_rfl) ?_
              refine ql (.bool false) (by kernel_rfl) (R_beq (b := ((nq : Int) != (xs.length : Int))) (by kernel_rfl) (bne_f (by have h1_ := RQ.len hq; (try simp only [List.length_append, List.length_cons, List.length_nil, len_tail] at *); omega))) ?_
              refine ql (.bool false) (by kernel_rfl) (by kernel_rfl) ?_
              refine qc (f := 44) (args := #[.pointer (some ⟨g5, 0, none⟩)]) (by kernel_rfl) (R_call #[.pointer (some ⟨g5, 0, none⟩)] Try.func44 (by kernel_rfl) (by kernel_rfl) (by kernel_rfl)) ?_
              refine (wlen g5 (nw - 1 : Nat) _ (HS.cell (i := 1) (j := 2) rfl rfl)).mono ?_
              rintro e W46 ⟨rfl, H_⟩
              refine ⟨_, rfl, ?_⟩
              replace HS : St W (owns []) W46 [mpo Try.prog 3 3 mv m F5, blk g5 [.slice A5 w5.length c5, .int .i64 (f5 : Int), .int .i64 ((nw - 1 : Nat) : Int), mv] 57, row A5 w5.length c5 (ci .i64 w5) 3 1, blk g3 [.slice Aq qs_.length cq, .int .i64 (fq : Int), .int .i64 (nq : Int)] 54, row Aq qs_.length cq (ci .i64 qs_) 3 1, rde Aa (ci .i64 xs), rde (cutA Ab cb 1 1) (ci .i64 zs.tail)] := HS.join (F := []) (G := []) H_
              clear H_
              refine ql (.slice (cutA Ab cb 1 1) zs.tail.length (cb - 1)) (by kernel_rfl) (by kernel_rfl) ?_
              refine ql (.int .i64 (zs.tail.length : Int)) (by kernel_rfl) (by kernel_rfl) ?_
              refine ql (.bool false) (by kernel_rfl) (R_beq (b := (((nw - 1 : Nat) : Int) != (zs.tail.length : Int))) (by kernel_rfl) (bne_f (by have h1_ := RQ.len hwn; (try simp only [List.length_append, List.length_cons, List.length_nil, len_tail] at *); omega))) ?_
              refine ql (.bool false) (by kernel_rfl) (by kernel_rfl) ?_
              refine wpList_nil ?_
              refine x_then ?_
              refine wp_cond_false (by kernel_rfl) ?_
              refine wp_skip ?_
              refine x_inb ?_
              refine x_then ?_
              refine wp_region_lit ?_
              refine ql (.int .i64 i) (by kernel_rfl) (by kernel_rfl) ?_
              refine ql (.int .i64 (i + 1)) (by kernel_rfl) (R_int (by kernel_rfl) (w64 (by omega))) ?_
              refine ql (.int .i64 (i + 1)) (by kernel_rfl) (by kernel_rfl) ?_
              refine wpList_nil ?_
              refine x_then ?_
              exact ⟨acts.length - (i + 1).toNat, by omega, (fun k_ : Nat => List.getD ((.slice (some ad11) acts.length c) :: undef :: ((J7 2)) :: (.pointer (some ⟨g3, 0, none⟩)) :: (.pointer (some ⟨g5, 0, none⟩)) :: (.slice Aa xs.length ca) :: (.slice (cutA Ab cb 1 1) zs.tail.length (cb - 1)) :: (.int .i64 (i + 1)) :: (.int .i64 0) :: (.bool false) :: (.slice Aa xs.length ca) :: (.int .i64 0) :: (.bool false) :: (.int .i64 (rdI zs 0)) :: (.bool true) :: (.slice (cutA Ab cb 1 1) zs.tail.length (cb - 1)) :: (.int .i64 (rdI zs 0)) :: (.bool true) :: (.slice (some ad11) acts.length c) :: (.int .i64 (acts.length : Int)) :: (.bool false) :: undef :: (.int .i64 i) :: (.slice (some ad11) acts.length c) :: (.int .i64 (acts.length : Int)) :: (.bool true) :: (.int .i64 i) :: (.int .i64 (i + 1)) :: (.slice (some ad11) acts.length c) :: (.int .i64 i) :: (.pointer (some (ad11.add (i.toNat * 2)))) :: (.pointer (some (ad11.add (i.toNat * 2)))) :: (.int .i64 ((gx acts i).1)) :: (.bool false) :: ((J7 34)) :: ((J7 35)) :: ((J7 36)) :: ((J7 37)) :: ((J7 38)) :: ((J7 39)) :: ((J7 40)) :: ((J7 41)) :: ((J7 42)) :: ((J7 43)) :: ((J7 44)) :: ((J7 45)) :: ((J7 46)) :: ((J7 47)) :: ((J7 48)) :: ((J7 49)) :: ((J7 50)) :: ((J7 51)) :: ((J7 52)) :: ((J7 53)) :: ((J7 54)) :: ((J7 55)) :: ((J7 56)) :: ((J7 57)) :: ((J7 58)) :: ((J7 59)) :: ((J7 60)) :: ((J7 61)) :: ((J7 62)) :: ((J7 63)) :: ((J7 64)) :: ((J7 65)) :: ((J7 66)) :: ((J7 67)) :: ((J7 68)) :: ((J7 69)) :: ((J7 70)) :: ((J7 71)) :: ((J7 72)) :: ((J7 73)) :: ((J7 74)) :: ((J7 75)) :: ((J7 76)) :: ((J7 77)) :: ((J7 78)) :: ((J7 79)) :: (.slice (some ad11) acts.length c) :: (.int .i64 i) :: (.pointer (some (ad11.add (i.toNat * 2)))) :: (.pointer (some (ad11.add (i.toNat * 2)))) :: (.int .i64 ((gx acts i).1)) :: (.bool true) :: (.tuple #[.int .i64 0, .bool false]) :: (.tuple #[.int .i64 0, .bool false]) :: (.int .i64 0) :: (.bool false) :: (.tuple #[.slice Aa xs.length ca, .int .i64 0, .bool false]) :: (.slice Aa xs.length ca) :: (.tuple #[.slice Aa xs.length ca, .int .i64 0, .bool false]) :: (.slice Aa xs.length ca) :: (.int .i64 0) :: (.bool false) :: (.tuple #[.int .i64 (rdI zs 0), .bool true]) :: (.tuple #[.int .i64 (rdI zs 0), .bool true]) :: (.int .i64 (rdI zs 0)) :: (.bool true) :: (.tuple #[.slice (cutA Ab cb 1 1) zs.tail.length (cb - 1), .int .i64 (rdI zs 0), .bool true]) :: (.slice Ab zs.length cb) :: (.tuple #[.slice (cutA Ab cb 1 1) zs.tail.length (cb - 1), .int .i64 (rdI zs 0), .bool true]) :: (.slice (cutA Ab cb 1 1) zs.tail.length (cb - 1)) :: (.int .i64 (rdI zs 0)) :: (.bool true) :: (.slice Aa xs.length ca) :: (.slice (cutA Ab cb 1 1) zs.tail.length (cb - 1)) :: (.int .i64 0) :: (.int .i64 0) :: (.bool false) :: (.bool false) :: (.bool false) :: (.bool false) :: (.bool false) :: (.bool false) :: (.bool false) :: (.int .i64 (rdI zs 0)) :: (.int .i64 (rdI zs 0)) :: (.bool false) :: (.bool false) :: (.bool false) :: (.bool true) :: (.bool true) :: (.bool false) :: (.bool false) :: (.int .i64 (nq : Int)) :: (.slice Aa xs.length ca) :: (.int .i64 (xs.length : Int)) :: (.bool false) :: (.bool false) :: (.int .i64 ((nw - 1 : Nat) : Int)) :: (.slice (cutA Ab cb 1 1) zs.tail.length (cb - 1)) :: (.int .i64 (zs.tail.length : Int)) :: (.bool false) :: (.bool false) :: undef :: []) k_ undef), i + 1, Aq, cq, fq, nq, qs_, xs, mv, m, F5, A5, c5, f5, (nw - 1 : Nat), w5, zs.tail, Aa, ca, (cutA Ab cb 1 1), (cb - 1), congrArg Fr (by kernel_rfl), rfl, by omega, by omega, hq, hwn, hHn, (nodup_tail hnd), by (try simp only [List.length_append, List.length_cons, List.length_nil, len_tail]); omega, by (try simp only [List.length_append, List.length_cons, List.length_nil, len_tail]); omega, by omega, by (try simp only [List.length_append, List.length_cons, List.length_nil, len_tail]); omega, by (try simp only [List.length_append, List.length_cons, List.length_nil, len_tail]); omega, (fun x hx => hrz x (List.mem_of_mem_tail hx)), HS⟩
          · skip
            refine (qpop_some g3 54 [] _ cq fq nq qs_ xs _ _ (St.focus (F := [blk g3 [.slice Aq qs_.length cq, .int .i64 (fq : Int), .int .i64 (nq : Int)] 54, row Aq qs_.length cq (ci .i64 qs_) 3 1]) HS) hq (by omega)).mono ?_
            rintro e W47 ⟨A4, c4, f4, q4, rfl, H_, hqn⟩
            refine ⟨_, rfl, ?_⟩
            replace HS : St W (owns []) W47 [blk g3 [.slice A4 q4.length c4, .int .i64 (f4 : Int), .int .i64 ((nq - 1 : Nat) : Int)] 54, row A4 q4.length c4 (ci .i64 q4) 3 1, mpo Try.prog 3 3 mv m F, blk g5 [.slice Aw ws.length cw, .int .i64 (fw : Int), .int .i64 (nw : Int), mv] 57, row Aw ws.length cw (ci .i64 ws) 3 1, rde Aa (ci .i64 xs), rde Ab (ci .i64 zs)] := HS.join (F := [blk g3 [.slice Aq qs_.length cq, .int .i64 (fq : Int), .int .i64 (nq : Int)] 54, row Aq qs_.length cq (ci .i64 qs_) 3 1]) (G := [blk g3 [.slice A4 q4.length c4, .int .i64 (f4 : Int), .int .i64 ((nq - 1 : Nat) : Int)] 54, row A4 q4.length c4 (ci .i64 q4) 3 1]) H_
            clear H_
            have hql2 := hqn.len
            refine ql (.tuple #[.int .i64 (rdI xs 0), .bool true]) (by kernel_rfl) (by kernel_rfl) ?_
            refine ql (.int .i64 (rdI xs 0)) (by kernel_rfl) (by kernel_rfl) ?_
            refine ql (.bool true) (by kernel_rfl) (by kernel_rfl) ?_
            refine ql (.int .i64 (rdI xs 0)) (by kernel_rfl) (by kernel_rfl) ?_
            refine ql (.bool true) (by kernel_rfl) (by kernel_rfl) ?_
            refine wpList_nil ?_
            refine x_then ?_
            refine wp_seq ?_
            refine wp_region_lit ?_
            refine ql (.slice Aa xs.length ca) (by kernel_rfl) (by kernel_rfl) ?_
            refine qc (f := 41) (args := #[.slice Aa xs.length ca]) (by kernel_rfl) (R_call #[.slice Aa xs.length ca] Try.func41 (by kernel_rfl) (by kernel_rfl) (by kernel_rfl)) ?_
            refine (first_some _ _ xs _ (HS.get (i := 5) rfl) (by omega) (by omega) (by omega)).mono ?_
            rintro e W48 ⟨rfl, H_⟩
            refine ⟨_, rfl, ?_⟩
            replace HS : St W (owns []) W48 [blk g3 [.slice A4 q4.length c4, .int .i64 (f4 : Int), .int .i64 ((nq - 1 : Nat) : Int)] 54, row A4 q4.length c4 (ci .i64 q4) 3 1, mpo Try.prog 3 3 mv m F, blk g5 [.slice Aw ws.length cw, .int .i64 (fw : Int), .int .i64 (nw : Int), mv] 57, row Aw ws.length cw (ci .i64 ws) 3 1, rde Aa (ci .i64 xs), rde Ab (ci .i64 zs)] := HS.join (F := []) (G := []) H_
            clear H_
            replace HS : St W (owns []) W48 [blk g3 [.slice A4 q4.length c4, .int .i64 (f4 : Int), .int .i64 ((nq - 1 : Nat) : Int)] 54, row A4 q4.length c4 (ci .i64 q4) 3 1, mpo Try.prog 3 3 mv m F, blk g5 [.slice Aw ws.length cw, .int .i64 (fw : Int), .int .i64 (nw : Int), mv] 57, row Aw ws.length cw (ci .i64 ws) 3 1, rde (cutA Aa ca 1 1) (ci .i64 xs.tail), rde Ab (ci .i64 zs)] := (HS.rde_sub (i := 5) rfl (fun h_ => rd_cut (c := ca) (m := 1) h_ (by omega) (by rw [ci_len]; omega)) cutA_own).cast_ (by rw [ci_drop, List.drop_one]; rfl)
            refine ql (.tuple #[.slice (cutA Aa ca 1 1) xs.tail.length (ca - 1), .int .i64 (rdI xs 0), .bool true]) (by kernel_rfl) (by kernel_rfl) ?_
            refine ql (.slice (cutA Aa ca 1 1) xs.tail.length (ca - 1)) (by kernel_rfl) (by kernel_rfl) ?_
            refine ql (.int .i64 (rdI xs 0)) (by kernel_rfl) (by kernel_rfl) ?_
            refine ql (.bool true) (by kernel_rfl) (by kernel_rfl) ?_
            refine ql (.slice (cutA Aa ca 1 1) xs.tail.length (ca - 1)) (by kernel_rfl) (by kernel_rfl) ?_
            refine ql (.int .i64 (rdI xs 0)) (by kernel_rfl) (by kernel_rfl) ?_
            refine ql (.bool true) (by kernel_rfl) (by kernel_rfl) ?_
            refine wpList_nil ?_
            refine x_then ?_
            refine wp_seq ?_
            refine wp_region_lit ?_
            refine qc (f := 42) (args := #[.pointer (some ⟨g5, 0, none⟩)]) (by kernel_rfl) (R_call #[.pointer (some ⟨g5, 0, none⟩)] Try.func42 (by kernel_rfl) (by kernel_rfl) (by kernel_rfl)) ?_
            replace HS : St W (owns []) W48 [mpo Try.prog 3 3 mv m F, blk g5 [.slice Aw ws.length cw, .int .i64 (fw : Int), .int .i64 (nw : Int), mv] 57, row Aw ws.length cw (ci .i64 ws) 3 1, blk g3 [.slice A4 q4.length c4, .int .i64 (f4 : Int), .int .i64 ((nq - 1 : Nat) : Int)] 54, row A4 q4.length c4 (ci .i64 q4) 3 1, rde (cutA Aa ca 1 1) (ci .i64 xs.tail), rde Ab (ci .i64 zs)] := HS.perm (perm_ [2, 3, 4, 0, 1, 5, 6] (by kernel_rfl) rfl)
            by_cases hw0 : zs.length = 0
            · skip
              replace HS : St W (owns []) W48 [blk g5 [.slice Aw ws.length cw, .int .i64 (fw : Int), .int .i64 (nw : Int), mv] 57, row Aw ws.length cw (ci .i64 ws) 3 1, mpo Try.prog 3 3 mv m F, blk g3 [.slice A4 q4.length c4, .int .i64 (f4 : Int), .int .i64 ((nq - 1 : Nat) : Int)] 54, row A4 q4.length c4 (ci .i64 q4) 3 1, rde (cutA Aa ca 1 1) (ci .i64 xs.tail), rde Ab (ci .i64 zs)] := HS.perm (perm_ [1, 2, 0, 3, 4, 5, 6] (by kernel_rfl) rfl)
              refine (wpop_nil g5 57 _ cw fw nw ws zs _ _ mv (St.focus (F := [blk g5 [.slice Aw ws.length cw, .int .i64 (fw : Int), .int .i64 (nw : Int), mv] 57, row Aw ws.length cw (ci .i64 ws) 3 1]) HS) hw (List.eq_nil_of_length_eq_zero hw0)).mono ?_
              rintro e W49 ⟨rfl, H_⟩
              refine ⟨_, rfl, ?_⟩
              replace HS : St W (owns []) W49 [blk g5 [.slice Aw ws.length cw, .int .i64 (fw : Int), .int .i64 (nw : Int), mv] 57, row Aw ws.length cw (ci .i64 ws) 3 1, mpo Try.prog 3 3 mv m F, blk g3 [.slice A4 q4.length c4, .int .i64 (f4 : Int), .int .i64 ((nq - 1 : Nat) : Int)] 54, row A4 q4.length c4 (ci .i64 q4) 3 1, rde (cutA Aa ca 1 1) (ci .i64 xs.tail), rde Ab (ci .i64 zs)] := HS.join (F := [blk g5 [.slice Aw ws.length cw, .int .i64 (fw : Int), .int .i64 (nw : Int), mv] 57, row Aw ws.length cw (ci .i64 ws) 3 1]) (G := [blk g5 [.slice Aw ws.length cw, .int .i64 (fw : Int), .int .i64 (nw : Int), mv] 57, row Aw ws.length cw (ci .i64 ws) 3 1]) H_
              clear H_
              refine ql (.tuple #[.int .i64 0, .bool false]) (by kernel_rfl) (by kernel_rfl) ?_
              refine ql (.int .i64 0) (by kernel_rfl) (by kernel_rfl) ?_
              refine ql (.bool false) (by kernel_rfl) (by kernel_rfl) ?_
              refine ql (.int .i64 0) (by kernel_rfl) (by kernel_rfl) ?_
              refine ql (.bool false) (by kernel_rfl) (by kernel_rfl) ?_
              refine wpList_nil ?_
              refine x_then ?_
              refine wp_seq ?_
              refine wp_region_lit ?_
              refine ql (.slice Ab zs.length cb) (by kernel_rfl) (by kernel_rfl) ?_
              refine qc (f := 41) (args := #[.slice Ab zs.length cb]) (by kernel_rfl) (R_call #[.slice Ab zs.length cb] Try.func41 (by kernel_rfl) (by kernel_rfl) (by kernel_rfl)) ?_
              refine (first_nil _ _ zs _ (HS.get (i := 6) rfl) (by omega) (by omega) (by omega)).mono ?_
              rintro e W50 ⟨rfl, H_⟩
              refine ⟨_, rfl, ?_⟩
              replace HS : St W (owns []) W50 [blk g5 [.slice Aw ws.length cw, .int .i64 (fw : Int), .int .i64 (nw : Int), mv] 57, row Aw ws.length cw (ci .i64 ws) 3 1, mpo Try.prog 3 3 mv m F, blk g3 [.slice A4 q4.length c4, .int .i64 (f4 : Int), .int .i64 ((nq - 1 : Nat) : Int)] 54, row A4 q4.length c4 (ci .i64 q4) 3 1, rde (cutA Aa ca 1 1) (ci .i64 xs.tail), rde Ab (ci .i64 zs)] := HS.join (F := []) (G := []) H_
              clear H_
              refine ql (.tuple #[.slice Ab zs.length cb, .int .i64 0, .bool false]) (by kernel_rfl) (by kernel_rfl) ?_
              refine ql (.slice Ab zs.length cb) (by kernel_rfl) (by kernel_rfl) ?_
              refine ql (.int .i64 0) (by kernel_rfl) (by kernel_rfl) ?_
              refine ql (.bool false) (by kernel_rfl) (by kernel_rfl) ?_
              refine ql (.slice Ab zs.length cb) (by kernel_rfl) (by kernel_rfl) ?_
              refine ql (.int .i64 0) (by kernel_rfl) (by kernel_rfl) ?_
              refine ql (.bool false) (by kernel_rfl) (by kernel_rfl) ?_
              refine wpList_nil ?_
              refine x_then ?_
              refine wp_seq ?_
              refine wp_region_lit ?_
              refine ql (.slice (cutA Aa ca 1 1) xs.tail.length (ca - 1)) (by kernel_rfl) (by kernel_rfl) ?_
              refine ql (.slice (cutA Aa ca 1 1) xs.tail.length (ca - 1)) (by kernel_rfl) (by kernel_rfl) ?_
              refine wpList_nil ?_
              refine x_then ?_
              refine wp_seq ?_
              refine wp_region_lit ?_
              refine ql (.slice Ab zs.length cb) (by kernel_rfl) (by kernel_rfl) ?_
              refine ql (.slice Ab zs.length cb) (by kernel_rfl) (by kernel_rfl) ?_
              refine wpList_nil ?_
              refine x_then ?_
              refine wp_seq ?_
              refine wp_region_lit ?_
              refine ql (.int .i64 (rdI xs 0)) (by kernel_rfl) (by kernel_rfl) ?_
              refine ql (.int .i64 (rdI xs 0)) (by kernel_rfl) (by kernel_rfl) ?_
              refine ql (.bool false) (by kernel_rfl) (R_beq (b := (rdI xs 0 != rdI xs 0)) (by kernel_rfl) (bne_f (by omega))) ?_
              refine ql (.bool false) (by kernel_rfl) (by kernel_rfl) ?_
              refine ql (.bool true) (by kernel_rfl) (by kernel_rfl) ?_
              refine ql (.bool true) (by kernel_rfl) (by kernel_rfl) ?_
              refine ql (.bool false) (by kernel_rfl) (by kernel_rfl) ?_
              refine ql (.bool false) (by kernel_rfl) (by kernel_rfl) ?_
              refine ql (.bool false) (by kernel_rfl) (by kernel_rfl) ?_
              refine ql (.int .i64 0) (by kernel_rfl) (by kernel_rfl) ?_
              refine ql (.int .i64 0) (by kernel_rfl) (by kernel_rfl) ?_
              refine ql (.bool false) (by kernel_rfl) (R_beq (b := ((0 : Int) != 0)) (by kernel_rfl) (by decide)) ?_
              refine ql (.bool false) (by kernel_rfl) (by kernel_rfl) ?_
              refine ql (.bool false) (by kernel_rfl) (by kernel_rfl) ?_
              refine ql (.bool false) (by kernel_rfl) (by kernel_rfl) ?_
              refine ql (.bool false) (by kernel_rfl) (by kernel_rfl) ?_
              refine ql (.bool false) (by kernel_rfl) (by kernel_rfl) ?_
              refine ql (.bool false) (by kernel_rfl) (by kernel_rfl) ?_
              refine wpList_nil ?_
              refine x_then ?_
              refine wp_cond_false (by kernel_rfl) ?_
              refine wp_skip ?_
              refine x_then ?_
              refine wp_seq ?_
              refine wp_region_lit ?_
              refine qc (f := 43) (args := #[.pointer (some ⟨g3, 0, none⟩)]) (by kernel_rfl) (R_call #[.pointer (some ⟨g3, 0, none⟩)] Try.func43 (by kernel_rfl) (by kernel_rfl) (by kernel_rfl)) ?_
              refine (qlen g3 (nq - 1 : Nat) _ (HS.cell (i := 3) (j := 2) rfl rfl)).mono ?_
              rintro e W51 ⟨rfl, H_⟩
              refine ⟨_, rfl, ?_⟩
              replace HS : St W (owns []) W51 [blk g5 [.slice Aw ws.length cw, .int .i64 (fw : Int), .int .i64 (nw : Int), mv] 57, row Aw ws.length cw (ci .i64 ws) 3 1, mpo Try.prog 3 3 mv m F, blk g3 [.slice A4 q4.length c4, .int .i64 (f4 : Int), .int .i64 ((nq - 1 : Nat) : Int)] 54, row A4 q4.length c4 (ci .i64 q4) 3 1, rde (cutA Aa ca 1 1) (ci .i64 xs.tail), rde Ab (ci .i64 zs)] := HS.join (F := []) (G := []) H_
              clear H_
              refine ql (.slice (cutA Aa ca 1 1) xs.tail.length (ca - 1)) (by kernel_rfl) (by kernel_rfl) ?_
              refine ql (.int .i64 (xs.tail.length : Int)) (by kernel_rfl) (by kernel_rfl) ?_
              refine ql (.bool false) (by kernel_rfl) (R_beq (b := (((nq - 1 : Nat) : Int) != (xs.tail.length : Int))) (by kernel_rfl) (bne_f (by have h1_ := RQ.len hqn; (try simp only [List.length_append, List.length_cons, List.length_nil, len_tail] at *); omega))) ?_
              refine ql (.bool false) (by kernel_rfl) (by kernel_rfl) ?_
              refine qc (f := 44) (args := #[.pointer (some ⟨g5, 0, none⟩)]) (by kernel_rfl) (R_call #[.pointer (some ⟨g5, 0, none⟩)] Try.func44 (by kernel_rfl) (by kernel_rfl) (by kernel_rfl)) ?_
              refine (wlen g5 nw _ (HS.cell (i := 0) (j := 2) rfl rfl)).mono ?_
              rintro e W52 ⟨rfl, H_⟩
              refine ⟨_, rfl, ?_⟩
              replace HS : St W (owns []) W52 [blk g5 [.slice Aw ws.length cw, .int .i64 (fw : Int), .int .i64 (nw : Int), mv] 57, row Aw ws.length cw (ci .i64 ws) 3 1, mpo Try.prog 3 3 mv m F, blk g3 [.slice A4 q4.length c4, .int .i64 (f4 : Int), .int .i64 ((nq - 1 : Nat) : Int)] 54, row A4 q4.length c4 (ci .i64 q4) 3 1, rde (cutA Aa ca 1 1) (ci .i64 xs.tail), rde Ab (ci .i64 zs)] := HS.join (F := []) (G := []) H_
              clear H_
              refine ql (.slice Ab zs.length cb) (by kernel_rfl) (by kernel_rfl) ?_
              refine ql (.int .i64 (zs.length : Int)) (by kernel_rfl) (by kernel_rfl) ?_
              refine ql (.bool false) (by kernel_rfl) (R_beq (b := ((nw : Int) != (zs.length : Int))) (by kernel_rfl) (bne_f (by have h1_ := RQ.len hw; (try simp only [List.length_append, List.length_cons, List.length_nil, len_tail] at *); omega))) ?_
              refine ql (.bool false) (by kernel_rfl) (by kernel_rfl) ?_
              refine wpList_nil ?_
              refine x_then ?_
              refine wp_cond_false (by kernel_rfl) ?_
              refine wp_skip ?_
              refine x_inb ?_
              refine x_then ?_
              refine wp_region_lit ?_
              refine ql (.int .i64 i) (by kernel_rfl) (by kernel_rfl) ?_
              refine ql (.int .i64 (i + 1)) (by kernel_rfl) (R_int (by kernel_rfl) (w64 (by omega))) ?_
              refine ql (.int .i64 (i + 1)) (by kernel_rfl) (by kernel_rfl) ?_
              refine wpList_nil ?_
              replace HS : St W (owns []) W52 [mpo Try.prog 3 3 mv m F, blk g5 [.slice Aw ws.length cw, .int .i64 (fw : Int), .int .i64 (nw : Int), mv] 57, row Aw ws.length cw (ci .i64 ws) 3 1, blk g3 [.slice A4 q4.length c4, .int .i64 (f4 : Int), .int .i64 ((nq - 1 : Nat) : Int)] 54, row A4 q4.length c4 (ci .i64 q4) 3 1, rde (cutA Aa ca 1 1) (ci .i64 xs.tail), rde Ab (ci .i64 zs)] := St.tail (F := []) (HS.perm (perm_ [2, 0, 1, 3, 4, 5, 6] (by kernel_rfl) rfl))
              refine x_then ?_
              exact ⟨acts.length - (i + 1).toNat, by omega, (fun k_ : Nat => List.getD ((.slice (some ad11) acts.length c) :: undef :: ((J7 2)) :: (.pointer (some ⟨g3, 0, none⟩)) :: (.pointer (some ⟨g5, 0, none⟩)) :: (.slice (cutA Aa ca 1 1) xs.tail.length (ca - 1)) :: (.slice Ab zs.length cb) :: (.int .i64 (i + 1)) :: (.int .i64 (rdI xs 0)) :: (.bool true) :: (.slice (cutA Aa ca 1 1) xs.tail.length (ca - 1)) :: (.int .i64 (rdI xs 0)) :: (.bool true) :: (.int .i64 0) :: (.bool false) :: (.slice Ab zs.length cb) :: (.int .i64 0) :: (.bool false) :: (.slice (some ad11) acts.length c) :: (.int .i64 (acts.length : Int)) :: (.bool false) :: undef :: (.int .i64 i) :: (.slice (some ad11) acts.length c) :: (.int .i64 (acts.length : Int)) :: (.bool true) :: (.int .i64 i) :: (.int .i64 (i + 1)) :: (.slice (some ad11) acts.length c) :: (.int .i64 i) :: (.pointer (some (ad11.add (i.toNat * 2)))) :: (.pointer (some (ad11.add (i.toNat * 2)))) :: (.int .i64 ((gx acts i).1)) :: (.bool false) :: ((J7 34)) :: ((J7 35)) :: ((J7 36)) :: ((J7 37)) :: ((J7 38)) :: ((J7 39)) :: ((J7 40)) :: ((J7 41)) :: ((J7 42)) :: ((J7 43)) :: ((J7 44)) :: ((J7 45)) :: ((J7 46)) :: ((J7 47)) :: ((J7 48)) :: ((J7 49)) :: ((J7 50)) :: ((J7 51)) :: ((J7 52)) :: ((J7 53)) :: ((J7 54)) :: ((J7 55)) :: ((J7 56)) :: ((J7 57)) :: ((J7 58)) :: ((J7 59)) :: ((J7 60)) :: ((J7 61)) :: ((J7 62)) :: ((J7 63)) :: ((J7 64)) :: ((J7 65)) :: ((J7 66)) :: ((J7 67)) :: ((J7 68)) :: ((J7 69)) :: ((J7 70)) :: ((J7 71)) :: ((J7 72)) :: ((J7 73)) :: ((J7 74)) :: ((J7 75)) :: ((J7 76)) :: ((J7 77)) :: ((J7 78)) :: ((J7 79)) :: (.slice (some ad11) acts.length c) :: (.int .i64 i) :: (.pointer (some (ad11.add (i.toNat * 2)))) :: (.pointer (some (ad11.add (i.toNat * 2)))) :: (.int .i64 ((gx acts i).1)) :: (.bool true) :: (.tuple #[.int .i64 (rdI xs 0), .bool true]) :: (.tuple #[.int .i64 (rdI xs 0), .bool true]) :: (.int .i64 (rdI xs 0)) :: (.bool true) :: (.tuple #[.slice (cutA Aa ca 1 1) xs.tail.length (ca - 1), .int .i64 (rdI xs 0), .bool true]) :: (.slice Aa xs.length ca) :: (.tuple #[.slice (cutA Aa ca 1 1) xs.tail.length (ca - 1), .int .i64 (rdI xs 0), .bool true]) :: (.slice (cutA Aa ca 1 1) xs.tail.length (ca - 1)) :: (.int .i64 (rdI xs 0)) :: (.bool true) :: (.tuple #[.int .i64 0, .bool false]) :: (.tuple #[.int .i64 0, .bool false]) :: (.int .i64 0) :: (.bool false) :: (.tuple #[.slice Ab zs.length cb, .int .i64 0, .bool false]) :: (.slice Ab zs.length cb) :: (.tuple #[.slice Ab zs.length cb, .int .i64 0, .bool false]) :: (.slice Ab zs.length cb) :: (.int .i64 0) :: (.bool false) :: (.slice (cutA Aa ca 1 1) xs.tail.length (ca - 1)) :: (.slice Ab zs.length cb) :: (.int .i64 (rdI xs 0)) :: (.int .i64 (rdI xs 0)) :: (.bool false) :: (.bool false) :: (.bool true) :: (.bool true) :: (.bool false) :: (.bool false) :: (.bool false) :: (.int .i64 0) :: (.int .i64 0) :: (.bool false) :: (.bool false) :: (.bool false) :: (.bool false) :: (.bool false) :: (.bool false) :: (.bool false) :: (.int .i64 ((nq - 1 : Nat) : Int)) :: (.slice (cutA Aa ca 1 1) xs.tail.length (ca - 1)) :: (.int .i64 (xs.tail.length : Int)) :: (.bool false) :: (.bool false) :: (.int .i64 (nw : Int)) :: (.slice Ab zs.length cb) :: (.int .i64 (zs.length : Int)) :: (.bool false) :: (.bool false) :: undef :: []) k_ undef), i + 1, A4, c4, f4, (nq - 1 : Nat), q4, xs.tail, mv, m, F, Aw, cw, fw, nw, ws, zs, (cutA Aa ca 1 1), (ca - 1), Ab, cb, congrArg Fr (by kernel_rfl), rfl, by omega, by omega, hqn, hw, hH, hnd, by (try simp only [List.length_append, List.length_cons, List.length_nil, len_tail]); omega, by (try simp only [List.length_append, List.length_cons, List.length_nil, len_tail]); omega, by omega, by (try simp only [List.length_append, List.length_cons, List.length_nil, len_tail]); omega, by (try simp only [List.length_append, List.length_cons, List.length_nil, len_tail]); omega, hrz, HS⟩
            · skip
              refine (wpopM g5 57 Aw cw fw nw ws zs mv m F _ _ (St.focus (F := [mpo Try.prog 3 3 mv m F, blk g5 [.slice Aw ws.length cw, .int .i64 (fw : Int), .int .i64 (nw : Int), mv] 57, row Aw ws.length cw (ci .i64 ws) 3 1]) HS) hw hH hnd (by omega) (hrz _ (in_rdI (by omega) (by omega)))).mono ?_
              rintro e W53 ⟨F5, A5, c5, f5, w5, rfl, H_, hwn, hHn⟩
              refine ⟨_, rfl, ?_⟩
              replace HS : St W (owns []) W53 [mpo Try.prog 3 3 mv m F5, blk g5 [.slice A5 w5.length c5, .int .i64 (f5 : Int), .int .i64 ((nw - 1 : Nat) : Int), mv] 57, row A5 w5.length c5 (ci .i64 w5) 3 1, blk g3 [.slice A4 q4.length c4, .int .i64 (f4 : Int), .int .i64 ((nq - 1 : Nat) : Int)] 54, row A4 q4.length c4 (ci .i64 q4) 3 1, rde (cutA Aa ca 1 1) (ci .i64 xs.tail), rde Ab (ci .i64 zs)] := HS.join (F := [mpo Try.prog 3 3 mv m F, blk g5 [.slice Aw ws.length cw, .int .i64 (fw : Int), .int .i64 (nw : Int), mv] 57, row Aw ws.length cw (ci .i64 ws) 3 1]) (G := [mpo Try.prog 3 3 mv m F5, blk g5 [.slice A5 w5.length c5, .int .i64 (f5 : Int), .int .i64 ((nw - 1 : Nat) : Int), mv] 57, row A5 w5.length c5 (ci .i64 w5) 3 1]) H_
              clear H_
              have hwl2 := hwn.len
              refine ql (.tuple #[.int .i64 (rdI zs 0), .bool true]) (by kernel_rfl) (by kernel_rfl) ?_
              refine ql (.int .i64 (rdI zs 0)) (by kernel_rfl) (by kernel_rfl) ?_
              refine ql (.bool true) (by kernel_rfl) (by kernel_rfl) ?_
              refine ql (.int .i64 (rdI zs 0)) (by kernel_rfl) (by kernel_rfl) ?_
              refine ql (.bool true) (by kernel_rfl) (by kernel_rfl) ?_
              refine wpList_nil ?_
              refine x_then ?_
              refine wp_seq ?_
              refine wp_region_lit ?_
              refine ql (.slice Ab zs.length cb) (by kernel_rfl) (by kernel_rfl) ?_
              refine qc (f := 41) (args := #[.slice Ab zs.length cb]) (by kernel_rfl) (R_call #[.slice Ab zs.length cb] Try.func41 (by kernel_rfl) (by kernel_rfl) (by kernel_rfl)) ?_
              refine (first_some _ _ zs _ (HS.get (i := 6) rfl) (by omega) (by omega) (by omega)).mono ?_
              rintro e W54 ⟨rfl, H_⟩
              refine ⟨_, rfl, ?_⟩
              replace HS : St W (owns []) W54 [mpo Try.prog 3 3 mv m F5, blk g5 [.slice A5 w5.length c5, .int .i64 (f5 : Int), .int .i64 ((nw - 1 : Nat) : Int), mv] 57, row A5 w5.length c5 (ci .i64 w5) 3 1, blk g3 [.slice A4 q4.length c4, .int .i64 (f4 : Int), .int .i64 ((nq - 1 : Nat) : Int)] 54, row A4 q4.length c4 (ci .i64 q4) 3 1, rde (cutA Aa ca 1 1) (ci .i64 xs.tail), rde Ab (ci .i64 zs)] := HS.join (F := []) (G := []) H_
              clear H_
              replace HS : St W (owns []) W54 [mpo Try.prog 3 3 mv m F5, blk g5 [.slice A5 w5.length c5, .int .i64 (f5 : Int), .int .i64 ((nw - 1 : Nat) : Int), mv] 57, row A5 w5.length c5 (ci .i64 w5) 3 1, blk g3 [.slice A4 q4.length c4, .int .i64 (f4 : Int), .int .i64 ((nq - 1 : Nat) : Int)] 54, row A4 q4.length c4 (ci .i64 q4) 3 1, rde (cutA Aa ca 1 1) (ci .i64 xs.tail), rde (cutA Ab cb 1 1) (ci .i64 zs.tail)] := (HS.rde_sub (i := 6) rfl (fun h_ => rd_cut (c := cb) (m := 1) h_ (by omega) (by rw [ci_len]; omega)) cutA_own).cast_ (by rw [ci_drop, List.drop_one]; rfl)
              refine ql (.tuple #[.slice (cutA Ab cb 1 1) zs.tail.length (cb - 1), .int .i64 (rdI zs 0), .bool true]) (by kernel_rfl) (by kernel_rfl) ?_
              refine ql (.slice (cutA Ab cb 1 1) zs.tail.length (cb - 1)) (by kernel_rfl) (by kernel_rfl) ?_
              refine ql (.int .i64 (rdI zs 0)) (by kernel_rfl) (by kernel_rfl) ?_
              refine ql (.bool true) (by kernel_rfl) (by kernel_rfl) ?_
              refine ql (.slice (cutA Ab cb 1 1) zs.tail.length (cb - 1)) (by kernel_rfl) (by kernel_rfl) ?_
              refine ql (.int .i64 (rdI zs 0)) (by kernel_rfl) (by kernel_rfl) ?_
              refine ql (.bool true) (by kernel_rfl) (by kernel_rfl) ?_
              refine wpList_nil ?_
              refine x_then ?_
              refine wp_seq ?_
              refine wp_region_lit ?_
              refine ql (.slice (cutA Aa ca 1 1) xs.tail.length (ca - 1)) (by kernel_rfl) (by kernel_rfl) ?_
              refine ql (.slice (cutA Aa ca 1 1) xs.tail.length (ca - 1)) (by kernel_rfl) (by kernel_rfl) ?_
              refine wpList_nil ?_
              refine x_then ?_
              refine wp_seq ?_
              refine wp_region_lit ?_
              refine ql (.slice (cutA Ab cb 1 1) zs.tail.length (cb - 1)) (by kernel_rfl) (by kernel_rfl) ?_
              refine ql (.slice (cutA Ab cb 1 1) zs.tail.length (cb - 1)) (by kernel_rfl) (by kernel_rfl) ?_
              refine wpList_nil ?_
              refine x_then ?_
              refine wp_seq ?_
              refine wp_region_lit ?_
              refine ql (.int .i64 (rdI xs 0)) (by kernel_rfl) (by kernel_rfl) ?_
              refine ql (.int .i64 (rdI xs 0)) (by kernel_rfl) (by kernel_rfl) ?_
              refine ql (.bool false) (by kernel_rfl) (R_beq (b := (rdI xs 0 != rdI xs 0)) (by kernel_rfl) (bne_f (by omega))) ?_
              refine ql (.bool false) (by kernel_rfl) (by kernel_rfl) ?_
              refine ql (.bool true) (by kernel_rfl) (by kernel_rfl) ?_
              refine ql (.bool true) (by kernel_rfl) (by kernel_rfl) ?_
              refine ql (.bool false) (by kernel_rfl) (by kernel_rfl) ?_
              refine ql (.bool false) (by kernel_rfl) (by kernel_rfl) ?_
              refine ql (.bool false) (by kernel_rfl) (by kernel_rfl) ?_
              refine ql (.int .i64 (rdI zs 0)) (by kernel_rfl) (by kernel_rfl) ?_
              refine ql (.int .i64 (rdI zs 0)) (by kernel_rfl) (by kernel_rfl) ?_
              refine ql (.bool false) (by kernel_rfl) (R_beq (b := (rdI zs 0 != rdI zs 0)) (by kernel_rfl) (bne_f (by omega))) ?_
              refine ql (.bool false) (by kernel_rfl) (by kernel_rfl) ?_
              refine ql (.bool false) (by kernel_rfl) (by kernel_rfl) ?_
              refine ql (.bool true) (by kernel_rfl) (by kernel_rfl) ?_
              refine ql (.bool true) (by kernel_rfl) (by kernel_rfl) ?_
              refine ql (.bool false) (by kernel_rfl) (by kernel_rfl) ?_
              refine ql (.bool false) (by kernel_rfl) (by kernel_rfl) ?_
              refine wpList_nil ?_
              refine x_then ?_
              refine wp_cond_false (by kernel_rfl) ?_
              refine wp_skip ?_
              refine x_then ?_
              refine wp_seq ?_
              refine wp_region_lit ?_
              refine qc (f := 43) (args := #[.pointer (some ⟨g3, 0, none⟩)]) (by kernel_rfl) (R_call #[.pointer (some ⟨g3, 0, none⟩)] Try.func43 (by kernel_rfl) (by kernel_rfl) (by kernel_rfl)) ?_
              refine (qlen g3 (nq - 1 : Nat) _ (HS.cell (i := 3) (j := 2) rfl rfl)).mono ?_
              rintro e W55 ⟨rfl, H_⟩
              refine ⟨_, rfl, ?_⟩
              replace HS : St W (owns []) W55 [mpo Try.prog 3 3 mv m F5, blk g5 [.slice A5 w5.length c5, .int .i64 (f5 : Int), .int .i64 ((nw - 1 : Nat) : Int), mv] 57, row A5 w5.length c5 (ci .i64 w5) 3 1, blk g3 [.slice A4 q4.length c4, .int .i64 (f4 : Int), .int .i64 ((nq - 1 : Nat) : Int)] 54, row A4 q4.length c4 (ci .i64 q4) 3 1, rde (cutA Aa ca 1 1) (ci .i64 xs.tail), rde (cutA Ab cb 1 1) (ci .i64 zs.tail)] := HS.join (F := []) (G := []) H_
              clear H_
              refine ql (.slice (cutA Aa ca 1 1) xs.tail.length (ca - 1)) (by kernel_rfl) (by kernel_rfl) ?_
              refine ql (.int .i64 (xs.tail.length : Int)) (by kernel_rfl) (by kernel_rfl) ?_
              refine ql (.bool false) (by kernel_rfl) (R_beq (b := (((nq - 1 : Nat) : Int) != (xs.tail.length : Int))) (by kernel_rfl) (bne_f (by have h1_ := RQ.len hqn; (try simp only [List.length_append, List.length_cons, List.length_nil, len_tail] at *); omega))) ?_
              refine ql (.bool false) (by kernel_rfl) (by kernel_rfl) ?_
              refine qc (f := 44) (args := #[.pointer (some ⟨g5, 0, none⟩)]) (by kernel_rfl) (R_call #[.pointer (some ⟨g5, 0, none⟩)] Try.func44 (by kernel_rfl) (by kernel_rfl) (by kernel_rfl)) ?_
              refine (wlen g5 (nw - 1 : Nat) _ (HS.cell (i := 1) (j := 2) rfl rfl)).mono ?_
              rintro e W56 ⟨rfl, H_⟩
              refine ⟨_, rfl, ?_⟩
              replace HS : St W (owns []) W56 [mpo Try.prog 3 3 mv m F5, blk g5 [.slice A5 w5.length c5, .int .i64 (f5 : Int), .int .i64 ((nw - 1 : Nat) : Int), mv] 57, row A5 w5.length c5 (ci .i64 w5) 3 1, blk g3 [.slice A4 q4.length c4, .int .i64 (f4 : Int), .int .i64 ((nq - 1 : Nat) : Int)] 54, row A4 q4.length c4 (ci .i64 q4) 3 1, rde (cutA Aa ca 1 1) (ci .i64 xs.tail), rde (cutA Ab cb 1 1) (ci .i64 zs.tail)] := HS.join (F := []) (G := []) H_
              clear H_
              refine ql (.slice (cutA Ab cb 1 1) zs.tail.length (cb - 1)) (by kernel_rfl) (by kernel_rfl) ?_
              refine ql (.int .i64 (zs.tail.length : Int)) (by kernel_rfl) (by kernel_rfl) ?_
              refine ql (.bool false) (by kernel_rfl) (R_beq (b := (((nw - 1 : Nat) : Int) != (zs.tail.length : Int))) (by kernel_rfl) (bne_f (by have h1_ := RQ.len hwn; (try simp only [List.length_append, List.length_cons, List.length_nil, len_tail] at *); omega))) ?_
              refine ql (.bool false) (by kernel_rfl) (by kernel_rfl) ?_
              refine wpList_nil ?_
              refine x_then ?_
              refine wp_cond_false (by kernel_rfl) ?_
              refine wp_skip ?_
              refine x_inb ?_
              refine x_then ?_
              refine wp_region_lit ?_
              refine ql (.int .i64 i) (by kernel_rfl) (by kernel_rfl) ?_
              refine ql (.int .i64 (i + 1)) (by kernel_rfl) (R_int (by kernel_rfl) (w64 (by omega))) ?_
              refine ql (.int .i64 (i + 1)) (by kernel_rfl) (by kernel_rfl) ?_
              refine wpList_nil ?_
              refine x_then ?_
              exact ⟨acts.length - (i + 1).toNat, by omega, (fun k_ : Nat => List.getD ((.slice (some ad11) acts.length c) :: undef :: ((J7 2)) :: (.pointer (some ⟨g3, 0, none⟩)) :: (.pointer (some ⟨g5, 0, none⟩)) :: (.slice (cutA Aa ca 1 1) xs.tail.length (ca - 1)) :: (.slice (cutA Ab cb 1 1) zs.tail.length (cb - 1)) :: (.int .i64 (i + 1)) :: (.int .i64 (rdI xs 0)) :: (.bool true) :: (.slice (cutA Aa ca 1 1) xs.tail.length (ca - 1)) :: (.int .i64 (rdI xs 0)) :: (.bool true) :: (.int .i64 (rdI zs 0)) :: (.bool true) :: (.slice (cutA Ab cb 1 1) zs.tail.length (cb - 1)) :: (.int .i64 (rdI zs 0)) :: (.bool true) :: (.slice (some ad11) acts.length c) :: (.int .i64 (acts.length : Int)) :: (.bool false) :: undef :: (.int .i64 i) :: (.slice (some ad11) acts.length c) :: (.int .i64 (acts.length : Int)) :: (.bool true) :: (.int .i64 i) :: (.int .i64 (i + 1)) :: (.slice (some ad11) acts.length c) :: (.int .i64 i) :: (.pointer (some (ad11.add (i.toNat * 2)))) :: (.pointer (some (ad11.add (i.toNat * 2)))) :: (.int .i64 ((gx acts i).1)) :: (.bool false) :: ((J7 34)) :: ((J7 35)) :: ((J7 36)) :: ((J7 37)) :: ((J7 38)) :: ((J7 39)) :: ((J7 40)) :: ((J7 41)) :: ((J7 42)) :: ((J7 43)) :: ((J7 44)) :: ((J7 45)) :: ((J7 46)) :: ((J7 47)) :: ((J7 48)) :: ((J7 49)) :: ((J7 50)) :: ((J7 51)) :: ((J7 52)) :: ((J7 53)) :: ((J7 54)) :: ((J7 55)) :: ((J7 56)) :: ((J7 57)) :: ((J7 58)) :: ((J7 59)) :: ((J7 60)) :: ((J7 61)) :: ((J7 62)) :: ((J7 63)) :: ((J7 64)) :: ((J7 65)) :: ((J7 66)) :: ((J7 67)) :: ((J7 68)) :: ((J7 69)) :: ((J7 70)) :: ((J7 71)) :: ((J7 72)) :: ((J7 73)) :: ((J7 74)) :: ((J7 75)) :: ((J7 76)) :: ((J7 77)) :: ((J7 78)) :: ((J7 79)) :: (.slice (some ad11) acts.length c) :: (.int .i64 i) :: (.pointer (some (ad11.add (i.toNat * 2)))) :: (.pointer (some (ad11.add (i.toNat * 2)))) :: (.int .i64 ((gx acts i).1)) :: (.bool true) :: (.tuple #[.int .i64 (rdI xs 0), .bool true]) :: (.tuple #[.int .i64 (rdI xs 0), .bool true]) :: (.int .i64 (rdI xs 0)) :: (.bool true) :: (.tuple #[.slice (cutA Aa ca 1 1) xs.tail.length (ca - 1), .int .i64 (rdI xs 0), .bool true]) :: (.slice Aa xs.length ca) :: (.tuple #[.slice (cutA Aa ca 1 1) xs.tail.length (ca - 1), .int .i64 (rdI xs 0), .bool true]) :: (.slice (cutA Aa ca 1 1) xs.tail.length (ca - 1)) :: (.int .i64 (rdI xs 0)) :: (.bool true) :: (.tuple #[.int .i64 (rdI zs 0), .bool true]) :: (.tuple #[.int .i64 (rdI zs 0), .bool true]) :: (.int .i64 (rdI zs 0)) :: (.bool true) :: (.tuple #[.slice (cutA Ab cb 1 1) zs.tail.length (cb - 1), .int .i64 (rdI zs 0), .bool true]) :: (.slice Ab zs.length cb) :: (.tuple #[.slice (cutA Ab cb 1 1) zs.tail.length (cb - 1), .int .i64 (rdI zs 0), .bool true]) :: (.slice (cutA Ab cb 1 1) zs.tail.length (cb - 1)) :: (.int .i64 (rdI zs 0)) :: (.bool true) :: (.slice (cutA Aa ca 1 1) xs.tail.length (ca - 1)) :: (.slice (cutA Ab cb 1 1) zs.tail.length (cb - 1)) :: (.int .i64 (rdI xs 0)) :: (.int .i64 (rdI xs 0)) :: (.bool false) :: (.bool false) :: (.bool true) :: (.bool true) :: (.bool false) :: (.bool false) :: (.bool false) :: (.int .i64 (rdI zs 0)) :: (.int .i64 (rdI zs 0)) :: (.bool false) :: (.bool false) :: (.bool false) :: (.bool true) :: (.bool true) :: (.bool false) :: (.bool false) :: (.int .i64 ((nq - 1 : Nat) : Int)) :: (.slice (cutA Aa ca 1 1) xs.tail.length (ca - 1)) :: (.int .i64 (xs.tail.length : Int)) :: (.bool false) :: (.bool false) :: (.int .i64 ((nw - 1 : Nat) : Int)) :: (.slice (cutA Ab cb 1 1) zs.tail.length (cb - 1)) :: (.int .i64 (zs.tail.length : Int)) :: (.bool false) :: (.bool false) :: undef :: []) k_ undef), i + 1, A4, c4, f4, (nq - 1 : Nat), q4, xs.tail, mv, m, F5, A5, c5, f5, (nw - 1 : Nat), w5, zs.tail, (cutA Aa ca 1 1), (ca - 1), (cutA Ab cb 1 1), (cb - 1), congrArg Fr (by kernel_rfl), rfl, by omega, by omega, hqn, hwn, hHn, (nodup_tail hnd), by (try simp only [List.length_append, List.length_cons, List.length_nil, len_tail]); omega, by (try simp only [List.length_append, List.length_cons, List.length_nil, len_tail]); omega, by omega, by (try simp only [List.length_append, List.length_cons, List.length_nil, len_tail]); omega, by (try simp only [List.length_append, List.length_cons, List.length_nil, len_tail]); omega, (fun x hx => hrz x (List.mem_of_mem_tail hx)), HS⟩
        · skip
          refine ql (.bool false) (by kernel_rfl) (R_beq (b := ((gx acts i).1 == (1 : Int))) (by kernel_rfl) (beq_f (hc36))) ?_
          refine wpList_nil ?_
          refine x_then ?_
          refine wp_cond_false (by kernel_rfl) ?_
          refine wp_skip ?_
          refine x_then ?_
          refine wp_seq ?_
          refine wp_region_lit ?_
          refine qc (f := 43) (args := #[.pointer (some ⟨g3, 0, none⟩)]) (by kernel_rfl) (R_call #[.pointer (some ⟨g3, 0, none⟩)] Try.func43 (by kernel_rfl) (by kernel_rfl) (by kernel_rfl)) ?_
          refine (qlen g3 nq _ (HS.cell (i := 3) (j := 2) rfl rfl)).mono ?_
          rintro e W57 ⟨rfl, H_⟩
          refine ⟨_, rfl, ?_⟩
          replace HS : St W (owns []) W57 [mpo Try.prog 3 3 mv m F, blk g5 [.slice Aw ws.length cw, .int .i64 (fw : Int), .int .i64 (nw : Int), mv] 57, row Aw ws.length cw (ci .i64 ws) 3 1, blk g3 [.slice Aq qs_.length cq, .int .i64 (fq : Int), .int .i64 (nq : Int)] 54, row Aq qs_.length cq (ci .i64 qs_) 3 1, rde Aa (ci .i64 xs), rde Ab (ci .i64 zs)] := HS.join (F := []) (G := []) H_
          clear H_
          refine ql (.slice Aa xs.length ca) (by kernel_rfl) (by kernel_rfl) ?_
          refine ql (.int .i64 (xs.length : Int)) (by kernel_rfl) (by kernel_rfl) ?_
          refine ql (.bool false) (by kernel_rfl) (R_beq (b := ((nq : Int) != (xs.length : Int))) (by kernel_rfl) (bne_f (by have h1_ := RQ.len hq; (try simp only [List.length_append, List.length_cons, List.length_nil, len_tail] at *); omega))) ?_
          refine ql (.bool false) (by kernel_rfl) (by kernel_rfl) ?_
          refine qc (f := 44) (args := #[.pointer (some ⟨g5, 0, none⟩)]) (by kernel_rfl) (R_call #[.pointer (some ⟨g5, 0, none⟩)] Try.func44 (by kernel_rfl) (by kernel_rfl) (by kernel_rfl)) ?_
          refine (wlen g5 nw _ (HS.cell (i := 1) (j := 2) rfl rfl)).mono ?_
          rintro e W58 ⟨rfl, H_⟩
          refine ⟨_, rfl, ?_⟩
          replace HS : St W (owns []) W58 [mpo Try.prog 3 3 mv m F, blk g5 [.slice Aw ws.length cw, .int .i64 (fw : Int), .int .i64 (nw : Int), mv] 57, row Aw ws.length cw (ci .i64 ws) 3 1, blk g3 [.slice Aq qs_.length cq, .int .i64 (fq : Int), .int .i64 (nq : Int)] 54, row Aq qs_.length cq (ci .i64 qs_) 3 1, rde Aa (ci .i64 xs), rde Ab (ci .i64 zs)] := HS.join (F := []) (G := []) H_
          clear H_
          refine ql (.slice Ab zs.length cb) (by kernel_rfl) (by kernel_rfl) ?_
          refine ql (.int .i64 (zs.length : Int)) (by kernel_rfl) (by kernel_rfl) ?_
          refine ql (.bool false) (by kernel_rfl) (R_beq (b := ((nw : Int) != (zs.length : Int))) (by kernel_rfl) (bne_f (by have h1_ := RQ.len hw; (try simp only [List.length_append, List.length_cons, List.length_nil, len_tail] at *); omega))) ?_
          refine ql (.bool false) (by kernel_rfl) (by kernel_rfl) ?_
          refine wpList_nil ?_
          refine x_then ?_
          refine wp_cond_false (by kernel_rfl) ?_
          refine wp_skip ?_
          refine x_inb ?_
          refine x_then ?_
          refine wp_region_lit ?_
          refine ql (.int .i64 i) (by kernel_rfl) (by kernel_rfl) ?_
          refine ql (.int .i64 (i + 1)) (by kernel_rfl) (R_int (by kernel_rfl) (w64 (by omega))) ?_
          refine ql (.int .i64 (i + 1)) (by kernel_rfl) (by kernel_rfl) ?_
          refine wpList_nil ?_
          refine x_then ?_
          exact ⟨acts.length - (i + 1).toNat, by omega, (fun k_ : Nat => List.getD ((.slice (some ad11) acts.length c) :: undef :: ((J7 2)) :: (.pointer (some ⟨g3, 0, none⟩)) :: (.pointer (some ⟨g5, 0, none⟩)) :: (.slice Aa xs.length ca) :: (.slice Ab zs.length cb) :: (.int .i64 (i + 1)) :: ((J7 8)) :: ((J7 9)) :: ((J7 10)) :: ((J7 11)) :: ((J7 12)) :: ((J7 13)) :: ((J7 14)) :: ((J7 15)) :: ((J7 16)) :: ((J7 17)) :: (.slice (some ad11) acts.length c) :: (.int .i64 (acts.length : Int)) :: (.bool false) :: undef :: (.int .i64 i) :: (.slice (some ad11) acts.length c) :: (.int .i64 (acts.length : Int)) :: (.bool true) :: (.int .i64 i) :: (.int .i64 (i + 1)) :: (.slice (some ad11) acts.length c) :: (.int .i64 i) :: (.pointer (some (ad11.add (i.toNat * 2)))) :: (.pointer (some (ad11.add (i.toNat * 2)))) :: (.int .i64 ((gx acts i).1)) :: (.bool false) :: ((J7 34)) :: ((J7 35)) :: ((J7 36)) :: ((J7 37)) :: ((J7 38)) :: ((J7 39)) :: ((J7 40)) :: ((J7 41)) :: ((J7 42)) :: ((J7 43)) :: ((J7 44)) :: ((J7 45)) :: ((J7 46)) :: ((J7 47)) :: ((J7 48)) :: ((J7 49)) :: ((J7 50)) :: ((J7 51)) :: ((J7 52)) :: ((J7 53)) :: ((J7 54)) :: ((J7 55)) :: ((J7 56)) :: ((J7 57)) :: ((J7 58)) :: ((J7 59)) :: ((J7 60)) :: ((J7 61)) :: ((J7 62)) :: ((J7 63)) :: ((J7 64)) :: ((J7 65)) :: ((J7 66)) :: ((J7 67)) :: ((J7 68)) :: ((J7 69)) :: ((J7 70)) :: ((J7 71)) :: ((J7 72)) :: ((J7 73)) :: ((J7 74)) :: ((J7 75)) :: ((J7 76)) :: ((J7 77)) :: ((J7 78)) :: ((J7 79)) :: (.slice (some ad11) acts.length c) :: (.int .i64 i) :: (.pointer (some (ad11.add (i.toNat * 2)))) :: (.pointer (some (ad11.add (i.toNat * 2)))) :: (.int .i64 ((gx acts i).1)) :: (.bool false) :: ((J7 86)) :: ((J7 87)) :: ((J7 88)) :: ((J7 89)) :: ((J7 90)) :: ((J7 91)) :: ((J7 92)) :: ((J7 93)) :: ((J7 94)) :: ((J7 95)) :: ((J7 96)) :: ((J7 97)) :: ((J7 98)) :: ((J7 99)) :: ((J7 100)) :: ((J7 101)) :: ((J7 102)) :: ((J7 103)) :: ((J7 104)) :: ((J7 105)) :: ((J7 106)) :: ((J7 107)) :: ((J7 108)) :: ((J7 109)) :: ((J7 110)) :: ((J7 111)) :: ((J7 112)) :: ((J7 113)) :: ((J7 114)) :: ((J7 115)) :: ((J7 116)) :: ((J7 117)) :: ((J7 118)) :: ((J7 119)) :: ((J7 120)) :: ((J7 121)) :: ((J7 122)) :: ((J7 123)) :: ((J7 124)) :: ((J7 125)) :: (.int .i64 (nq : Int)) :: (.slice Aa xs.length ca) :: (.int .i64 (xs.length : Int)) :: (.bool false) :: (.bool false) :: (.int .i64 (nw : Int)) :: (.slice Ab zs.length cb) :: (.int .i64 (zs.length : Int)) :: (.bool false) :: (.bool false) :: undef :: []) k_ undef), i + 1, Aq, cq, fq, nq, qs_, xs, mv, m, F, Aw, cw, fw, nw, ws, zs, Aa, ca, Ab, cb, congrArg Fr (by kernel_rfl), rfl, by omega, by omega, hq, hw, hH, hnd, by (try simp only [List.length_append, List.length_cons, List.length_nil, len_tail]); omega, by (try simp only [List.length_append, List.length_cons, List.length_nil, len_tail]); omega, by omega, by (try simp only [List.length_append, List.length_cons, List.length_nil, len_tail]); omega, by (try simp only [List.length_append, List.length_cons, List.length_nil, len_tail]); omega, hrz, HS⟩
    · skip
      refine ql (.bool false) (by kernel_rfl) (R_nbool (p := i < (acts.length : Int)) (by kernel_rfl) (hc10)) ?_
      refine wpList_nil ?_
      refine x_then ?_
      refine wp_cond_false (by kernel_rfl) ?_
      refine wp_exit ?_
      refine x_thenE ?_
      refine x_thenE ?_
      refine x_hit ?_
      refine x_then ?_
      refine wp_seq ?_
      refine wp_region_lit ?_
      refine qc (f := 35) (args := #[]) (by kernel_rfl) (R_call #[] Try.func35 (by kernel_rfl) (by kernel_rfl) (by kernel_rfl)) ?_
      refine (awake07 _).mono ?_
      rintro e W59 ⟨rfl, H_⟩
      refine ⟨_, rfl, ?_⟩
      replace HS : St W (owns []) W59 [mpo Try.prog 3 3 mv m F, blk g5 [.slice Aw ws.length cw, .int .i64 (fw : Int), .int .i64 (nw : Int), mv] 57, row Aw ws.length cw (ci .i64 ws) 3 1, blk g3 [.slice Aq qs_.length cq, .int .i64 (fq : Int), .int .i64 (nq : Int)] 54, row Aq qs_.length cq (ci .i64 qs_) 3 1, rde Aa (ci .i64 xs), rde Ab (ci .i64 zs)] := HS.join (F := []) (G := []) H_
      clear H_
      refine ql (.bool true) (by kernel_rfl) (by kernel_rfl) ?_
      refine wpList_nil ?_
      refine x_then ?_
      refine wp_ret ?_
      refine ret_ (.bool true) (by kernel_rfl) ?_
      exact ⟨rfl, HS.tail (F := [mpo Try.prog 3 3 mv m F, blk g5 [.slice Aw ws.length cw, .int .i64 (fw : Int), .int .i64 (nw : Int), mv] 57, row Aw ws.length cw (ci .i64 ws) 3 1, blk g3 [.slice Aq qs_.length cq, .int .i64 (fq : Int), .int .i64 (nq : Int)] 54, row Aq qs_.length cq (ci .i64 qs_) 3 1, rde Aa (ci .i64 xs), rde Ab (ci .i64 zs)])⟩

end Go.Proofs.Ytnabbhcagonlkaa.GStackQueues
