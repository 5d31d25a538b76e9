/- Written for this claim by gp.py, a program of this session's, over the kit's print. Lean checks it. -/
import Derived.Test.YtnabbhcagonlkaaGStackPlaysx0
import Derived.Test.YtnabbhcagonlkaaGStackPlayshx
import Derived.Test.YtnabbhcagonlkaaGStackPlayshhp1
import Derived.Test.YtnabbhcagonlkaaGStackPlayshhp2
import Derived.Test.YtnabbhcagonlkaaGStackPlayshhp4
import Derived.Test.YtnabbhcagonlkaaGStackPlayshw3a
import Derived.WalkKit
import Derived.StillTailTactics
import Derived.Deep.LoopGhost
import Derived.KernelRfl
import Derived.Deep.OwnRows
import Derived.Laws.OwnMore
import Derived.Laws.MakeOwn
import Derived.Maps.AppendAt
import Derived.OrdersHeld
namespace Go.Proofs.Ytnabbhcagonlkaa.GStackPlays
open Go.RowKit Go.Proofs.YtnabbhcagonlkaaW.PrintWords Go.Proofs.YtnabbhcagonlkaaW.PrintLast Go.Proofs.YtnabbhcagonlkaaW.PrintMore
attribute [local go_sem] max2_int min2_int max_two min_two max_three min_three max_four min_four   -- for this text's walks alone
set_option linter.unusedVariables false
set_option linter.unusedSimpArgs false

--import Derived.WalkKit
--import Derived.StillTailTactics
--import Derived.Deep.LoopGhost
--import Derived.KernelRfl
--import Derived.Deep.OwnRows
--import Derived.Laws.OwnMore
--import Derived.Laws.MakeOwn
--import Derived.Maps.AppendAt
--import Derived.OrdersHeld
attribute [local irreducible] wpStill wpList Code.wp TA

theorem nodup_snoc {xs : List Int} {v : Int} (h : xs.Nodup) (hv : v ∉ xs) : (xs ++ [v]).Nodup := List.nodup_append.2 ⟨h, List.nodup_cons.2 ⟨by simp, List.nodup_nil⟩, fun x hx y hy e => by rw [List.mem_singleton] at hy; subst hy; subst e; exact hv hx⟩
theorem nodup_tail {xs : List Int} (h : xs.Nodup) : xs.tail.Nodup := h.sublist (List.tail_sublist _)
theorem len_tail (xs : List Int) : xs.tail.length = xs.length - 1 := List.length_tail ..
theorem in_rdI {xs : List Int} {i : Int} (h0 : 0 ≤ i) (h1 : i < xs.length) : rdI xs i ∈ xs := List.mem_of_getElem? (rdI_eq h0 h1)
theorem act_in {acts : List (Int × Int)} {i : Int} {p : Int × Int → Prop} (h : ∀ a ∈ acts, p a) (h0 : 0 ≤ i) (h1 : i < acts.length) : p (gx acts i) := h _ (List.mem_of_getElem? (gx_eq h0 h1))

set_option maxRecDepth 100000 in
set_option maxHeartbeats 1000000 in
theorem StackPlays_walk (A : Option Addr) (c : Nat) (acts : List (Int × Int)) (W : World) (hr : Rd W A (cf actC acts)) (hcc : acts.length ≤ c) (hwf : ∀ a ∈ acts, -9223372036854775808 ≤ a.2 ∧ a.2 ≤ 9223372036854775807) : Calls Try.prog 12 #[.slice A acts.length c] W fun e W' => e = .returned (.bool true) ∧ St W (owns []) W' [] := by
  have HS : St W (owns []) W [] := St.start W _
  refine calls_enter ((.slice A acts.length c) :: undef :: undef :: undef :: undef :: undef :: undef :: undef :: undef :: undef :: undef :: undef :: undef :: undef :: undef :: undef :: undef :: undef :: undef :: undef :: undef :: undef :: undef :: undef :: undef :: undef :: undef :: undef :: undef :: undef :: undef :: undef :: undef :: undef :: undef :: undef :: undef :: undef :: undef :: undef :: undef :: undef :: undef :: undef :: undef :: undef :: undef :: undef :: undef :: undef :: undef :: undef :: undef :: undef :: undef :: undef :: undef :: undef :: undef :: undef :: undef :: undef :: undef :: undef :: undef :: undef :: undef :: undef :: undef :: undef :: undef :: undef :: undef :: undef :: undef :: undef :: undef :: undef :: undef :: undef :: undef :: undef :: undef :: undef :: undef :: undef :: undef :: undef :: undef :: undef :: undef :: undef :: undef :: undef :: undef :: undef :: undef :: undef :: undef :: undef :: undef :: undef :: undef :: undef :: undef :: undef :: undef :: undef :: undef :: undef :: undef :: undef :: undef :: undef :: undef :: undef :: undef :: undef :: undef :: undef :: []) Try.func12 rfl (by kernel_rfl) ?_
  refine wp_seq ?_
  refine wp_region_lit ?_
  refine ql (.bool false) (by kernel_rfl) (by kernel_rfl) ?_
  refine wpList_nil ?_
  refine x_then ?_
  refine wp_seq ?_
  refine wp_seq ?_
  refine wp_region_lit ?_
  refine ql (.slice A acts.length c) (by kernel_rfl) (by kernel_rfl) ?_
  refine ql (.int .i64 (acts.length : Int)) (by kernel_rfl) (by kernel_rfl) ?_
  by_cases hc1 : (acts.length : Int) > (60 : Int)
  · skip
    refine ql (.bool true) (by kernel_rfl) (R_bool (p := (acts.length : Int) > (60 : Int)) (by kernel_rfl) (hc1)) ?_
    refine wpList_nil ?_
    refine x_then ?_
    refine wp_cond_true (by kernel_rfl) ?_
    refine wp_seq ?_
    refine wp_region_lit ?_
    refine qc (f := 35) (args := #[]) (by kernel_rfl) (R_call #[] Try.func35 (by kernel_rfl) (by kernel_rfl) (by kernel_rfl)) ?_
    refine (awake07 _).mono ?_
    rintro e W2 ⟨rfl, H_⟩
    refine ⟨_, rfl, ?_⟩
    replace HS : St W (owns []) W2 [] := HS.join (F := []) (G := []) H_
    clear H_
    refine ql (.bool true) (by kernel_rfl) (by kernel_rfl) ?_
    refine wpList_nil ?_
    refine x_then ?_
    refine wp_ret ?_
    refine x_thenR ?_
    refine ret_ (.bool true) (by kernel_rfl) ?_
    exact ⟨rfl, HS.tail (F := [])⟩
  · skip
    refine ql (.bool false) (by kernel_rfl) (R_nbool (p := (acts.length : Int) > (60 : Int)) (by kernel_rfl) (hc1)) ?_
    refine wpList_nil ?_
    refine x_then ?_
    refine wp_cond_false (by kernel_rfl) ?_
    refine wp_skip ?_
    refine x_then ?_
    refine wp_seq ?_
    refine wp_region_lit ?_
    refine kb HS [.slice none 0 0] 88 (fun g => .pointer (some ⟨g, 0, none⟩)) (by kernel_rfl) (by kernel_rfl) ?_
    intro g3 W4 H_
    replace HS : St W (owns []) W4 [blk g3 [.slice none 0 0] 88] := H_
    clear H_
    refine wpList_nil ?_
    refine x_then ?_
    refine wp_seq ?_
    refine wp_region_lit ?_
    refine ql (.slice none 0 0) (by kernel_rfl) (by kernel_rfl) ?_
    refine wpList_nil ?_
    refine x_then ?_
    refine wp_seq ?_
    refine wp_seq ?_
    refine wp_region_lit ?_
    refine ql (.int .i64 0) (by kernel_rfl) (by kernel_rfl) ?_
    refine wpList_nil ?_
    refine x_then ?_
    refine wp_block ?_
    replace HS : St W (owns []) W4 [row none 0 0 (ci .i64 ([])) 3 1, blk g3 [.slice none 0 0] 88] := (HS.nilRow 3 1).cast_ (by kernel_rfl)
    replace HS : St W (owns []) W4 [row none 0 0 (ci .i64 ([])) 3 1, row none 0 0 (ci .i64 ([])) 3 1, blk g3 [.slice none 0 0] 88] := (HS.nilRow 3 1).cast_ (by kernel_rfl)
    replace HS : St W (owns []) W4 [rde none (ci .i64 ([])), row none 0 0 (ci .i64 ([])) 3 1, blk g3 [.slice none 0 0] 88] := HS.to_rde (i := 0) rfl
    replace HS : St W (owns []) W4 [blk g3 [.slice none 0 0] 88, row none 0 0 (ci .i64 ([])) 3 1, rde none (ci .i64 ([]))] := HS.perm (perm_ [2, 1, 0] (by kernel_rfl) rfl)
    refine wp_loop_ghost (fun kq a' w' => ∃ (J5 : Nat → Value) (i : Int) (As : Option Addr) (cs_ : Nat) (xs : List Int) (Aw : Option Addr) (cw : Nat) , a' = Fr ((.slice A acts.length c) :: undef :: ((J5 2)) :: (.pointer (some ⟨g3, 0, none⟩)) :: (.slice Aw xs.length cw) :: (.int .i64 i) :: ((J5 6)) :: ((J5 7)) :: ((J5 8)) :: ((J5 9)) :: ((J5 10)) :: ((J5 11)) :: ((J5 12)) :: ((J5 13)) :: ((J5 14)) :: ((J5 15)) :: ((J5 16)) :: ((J5 17)) :: (.slice A acts.length c) :: (.int .i64 (acts.length : Int)) :: (.bool false) :: undef :: ((J5 22)) :: ((J5 23)) :: ((J5 24)) :: ((J5 25)) :: ((J5 26)) :: ((J5 27)) :: ((J5 28)) :: ((J5 29)) :: ((J5 30)) :: ((J5 31)) :: ((J5 32)) :: ((J5 33)) :: ((J5 34)) :: ((J5 35)) :: ((J5 36)) :: ((J5 37)) :: ((J5 38)) :: ((J5 39)) :: ((J5 40)) :: ((J5 41)) :: ((J5 42)) :: ((J5 43)) :: ((J5 44)) :: ((J5 45)) :: ((J5 46)) :: ((J5 47)) :: ((J5 48)) :: ((J5 49)) :: ((J5 50)) :: ((J5 51)) :: ((J5 52)) :: ((J5 53)) :: ((J5 54)) :: ((J5 55)) :: ((J5 56)) :: ((J5 57)) :: ((J5 58)) :: ((J5 59)) :: ((J5 60)) :: ((J5 61)) :: ((J5 62)) :: ((J5 63)) :: ((J5 64)) :: ((J5 65)) :: ((J5 66)) :: ((J5 67)) :: ((J5 68)) :: ((J5 69)) :: ((J5 70)) :: ((J5 71)) :: ((J5 72)) :: ((J5 73)) :: ((J5 74)) :: ((J5 75)) :: ((J5 76)) :: ((J5 77)) :: ((J5 78)) :: ((J5 79)) :: ((J5 80)) :: ((J5 81)) :: ((J5 82)) :: ((J5 83)) :: ((J5 84)) :: ((J5 85)) :: ((J5 86)) :: ((J5 87)) :: ((J5 88)) :: ((J5 89)) :: ((J5 90)) :: ((J5 91)) :: ((J5 92)) :: ((J5 93)) :: ((J5 94)) :: ((J5 95)) :: ((J5 96)) :: ((J5 97)) :: ((J5 98)) :: ((J5 99)) :: ((J5 100)) :: ((J5 101)) :: ((J5 102)) :: ((J5 103)) :: ((J5 104)) :: ((J5 105)) :: ((J5 106)) :: ((J5 107)) :: ((J5 108)) :: ((J5 109)) :: ((J5 110)) :: ((J5 111)) :: ((J5 112)) :: ((J5 113)) :: ((J5 114)) :: ((J5 115)) :: ((J5 116)) :: ((J5 117)) :: ((J5 118)) :: undef :: []) ∧ kq = (acts.length - (i).toNat) ∧ (0 ≤ i) ∧ (i ≤ acts.length) ∧ (((xs).length : Int) ≤ 2 * i) ∧ ((xs).length ≤ cw) ∧ St W (owns []) w' [blk g3 [.slice As xs.length cs_] 88, row As xs.length cs_ (ci .i64 xs) 3 1, rde Aw (ci .i64 xs)]) (acts.length - ((0 : Int)).toNat) ⟨(fun k_ : Nat => List.getD ((.slice A acts.length c) :: undef :: (.bool false) :: (.pointer (some ⟨g3, 0, none⟩)) :: (.slice none 0 0) :: (.int .i64 0) :: undef :: undef :: undef :: undef :: undef :: undef :: undef :: undef :: undef :: undef :: undef :: undef :: (.slice A acts.length c) :: (.int .i64 (acts.length : Int)) :: (.bool false) :: undef :: undef :: undef :: undef :: undef :: undef :: undef :: undef :: undef :: undef :: undef :: undef :: undef :: undef :: undef :: undef :: undef :: undef :: undef :: undef :: undef :: undef :: undef :: undef :: undef :: undef :: undef :: undef :: undef :: undef :: undef :: undef :: undef :: undef :: undef :: undef :: undef :: undef :: undef :: undef :: undef :: undef :: undef :: undef :: undef :: undef :: undef :: undef :: undef :: undef :: undef :: undef :: undef :: undef :: undef :: undef :: undef :: undef :: undef :: undef :: undef :: undef :: undef :: undef :: undef :: undef :: undef :: undef :: undef :: undef :: undef :: undef :: undef :: undef :: undef :: undef :: undef :: undef :: undef :: undef :: undef :: undef :: undef :: undef :: undef :: undef :: undef :: undef :: undef :: undef :: undef :: undef :: undef :: undef :: undef :: undef :: undef :: undef :: undef :: []) k_ undef), (0 : Int), none, 0, ([] : List Int), none, 0, congrArg Fr (by kernel_rfl), rfl, by omega, by omega, by simp, by simp, HS⟩ ?_
    clear HS
    intro kq6 a' W7 hrel
    obtain ⟨J5, i, As, cs_, xs, Aw, cw, rfl, hk, i0, i1, hxl, hcw, HS⟩ := hrel
    refine wp_seq ?_
    refine wp_seq ?_
    refine wp_region_lit ?_
    refine ql (.int .i64 i) (by kernel_rfl) (by kernel_rfl) ?_
    refine ql (.slice A acts.length c) (by kernel_rfl) (by kernel_rfl) ?_
    refine ql (.int .i64 (acts.length : Int)) (by kernel_rfl) (by kernel_rfl) ?_
    by_cases hc8 : i < (acts.length : Int)
    · skip
      refine ql (.bool true) (by kernel_rfl) (R_bool (p := i < (acts.length : Int)) (by kernel_rfl) (hc8)) ?_
      refine wpList_nil ?_
      refine x_then ?_
      refine wp_cond_true (by kernel_rfl) ?_
      refine wp_skip ?_
      refine x_then ?_
      refine wp_seq ?_
      refine wp_block ?_
      refine wp_seq ?_
      refine wp_seq ?_
      refine wp_region_lit ?_
      refine ql (.slice A acts.length c) (by kernel_rfl) (by kernel_rfl) ?_
      refine ql (.int .i64 i) (by kernel_rfl) (by kernel_rfl) ?_
      obtain ⟨ad9, rfl⟩ := Rd.isSome_ hr (by rw [cf_len (z := 2) (fun _ => rfl)]; omega)
      refine ql (.pointer (some (ad9.add (i.toNat * 2)))) (by kernel_rfl) (R_indexA (k := .i64) (p := ad9) (n := acts.length) (c := c) (i := i) (by kernel_rfl) (by kernel_rfl) Try.underlying52 (by kernel_rfl) (by omega) (by omega)) ?_
      refine ql (.pointer (some (ad9.add (i.toNat * 2)))) (by kernel_rfl) (by kernel_rfl) ?_
      refine ql (.int .i64 ((gx acts i).1)) (by kernel_rfl) (R_load (p := ad9.add (i.toNat * 2)) (by kernel_rfl) (by kernel_rfl) (by kernel_rfl) (HS.old0 (Rd.elem0 (f := actC) (fun _ => rfl) hr (gx_eq (by omega) (by omega)) rfl))) ?_
      refine wpList_nil ?_
      refine x_then ?_
      refine wp_block ?_
      refine wp_seq ?_
      refine wp_region_lit ?_
      by_cases hc10 : ((gx acts i).1) = (0 : Int)
      · skip
        refine ql (.bool true) (by kernel_rfl) (R_beq (b := ((gx acts i).1 == (0 : Int))) (by kernel_rfl) (beq_t (hc10))) ?_
        refine ql (.bool true) (by kernel_rfl) (by kernel_rfl) ?_
        refine wpList_nil ?_
        refine x_then ?_
        refine wp_cond_true (by kernel_rfl) ?_
        refine wp_seq ?_
        refine wp_region_lit ?_
        refine ql (.slice (some ad9) acts.length c) (by kernel_rfl) (by kernel_rfl) ?_
        refine ql (.int .i64 i) (by kernel_rfl) (by kernel_rfl) ?_
        refine ql (.pointer (some (ad9.add (i.toNat * 2)))) (by kernel_rfl) (R_indexA (k := .i64) (p := ad9) (n := acts.length) (c := c) (i := i) (by kernel_rfl) (by kernel_rfl) Try.underlying52 (by kernel_rfl) (by omega) (by omega)) ?_
        refine ql (.pointer (some ((ad9.add (i.toNat * 2)).add 1))) (by kernel_rfl) (by kernel_rfl) ?_
        refine ql (.int .i64 ((gx acts i).2)) (by kernel_rfl) (R_load (p := (ad9.add (i.toNat * 2)).add 1) (by kernel_rfl) (by kernel_rfl) (by kernel_rfl) (HS.old0 (Rd.elem1 (k := 1) (f := actC) (fun _ => rfl) hr (gx_eq (by omega) (by omega)) rfl))) ?_
        refine ql (.int .i64 i) (by kernel_rfl) (by kernel_rfl) ?_
        refine kl HS 2 [.int .i64 ((gx acts i).2), .int .i64 i] 3 1 (by kernel_rfl) (by kernel_rfl) rfl (by decide) ?_
        intro g11 W12 H_
        replace HS : St W (owns []) W12 [row (some ⟨g11, 0, none⟩) 2 2 (ci .i64 ([(gx acts i).2, i])) 3 1, blk g3 [.slice As xs.length cs_] 88, row As xs.length cs_ (ci .i64 xs) 3 1, rde Aw (ci .i64 xs)] := H_.cast_ (by kernel_rfl)
        clear H_
        refine qc (f := 56) (args := #[.pointer (some ⟨g3, 0, none⟩), .slice (some ⟨g11, 0, none⟩) 2 2]) (by kernel_rfl) (R_call #[.pointer (some ⟨g3, 0, none⟩), .slice (some ⟨g11, 0, none⟩) 2 2] Try.func56 (by kernel_rfl) (by kernel_rfl) (by kernel_rfl)) ?_
        replace HS : St W (owns []) W12 [blk g3 [.slice As xs.length cs_] 88, row As xs.length cs_ (ci .i64 xs) 3 1, row (some ⟨g11, 0, none⟩) 2 2 (ci .i64 ([(gx acts i).2, i])) 3 1, rde Aw (ci .i64 xs)] := HS.perm (perm_ [1, 2, 0, 3] (by kernel_rfl) rfl)
        refine (push_calls g3 _ _ cs_ _ xs ([(gx acts i).2, i]) _ _ (St.focus (F := [blk g3 [.slice As xs.length cs_] 88, row As xs.length cs_ (ci .i64 xs) 3 1, row (some ⟨g11, 0, none⟩) 2 2 (ci .i64 ([(gx acts i).2, i])) 3 1]) HS) (by omega) (by simp)).mono ?_
        rintro e W13 ⟨A1, c1, rfl, H_⟩
        refine ⟨_, rfl, ?_⟩
        replace HS : St W (owns []) W13 [blk g3 [.slice A1 ((xs ++ [(gx acts i).2, i]).length) c1] 88, row A1 ((xs ++ [(gx acts i).2, i]).length) c1 (ci .i64 (xs ++ [(gx acts i).2, i])) 3 1, rde Aw (ci .i64 xs)] := HS.join (F := [blk g3 [.slice As xs.length cs_] 88, row As xs.length cs_ (ci .i64 xs) 3 1, row (some ⟨g11, 0, none⟩) 2 2 (ci .i64 ([(gx acts i).2, i])) 3 1]) (G := [blk g3 [.slice A1 ((xs ++ [(gx acts i).2, i]).length) c1] 88, row A1 ((xs ++ [(gx acts i).2, i]).length) c1 (ci .i64 (xs ++ [(gx acts i).2, i])) 3 1]) H_
        clear H_
        refine wpList_nil ?_
        refine x_then ?_
        refine wp_region_lit ?_
        refine ql (.slice Aw xs.length cw) (by kernel_rfl) (by kernel_rfl) ?_
        refine ql (.slice (some ad9) acts.length c) (by kernel_rfl) (by kernel_rfl) ?_
        refine ql (.int .i64 i) (by kernel_rfl) (by kernel_rfl) ?_
        refine ql (.pointer (some (ad9.add (i.toNat * 2)))) (by kernel_rfl) (R_indexA (k := .i64) (p := ad9) (n := acts.length) (c := c) (i := i) (by kernel_rfl) (by kernel_rfl) Try.underlying52 (by kernel_rfl) (by omega) (by omega)) ?_
        refine ql (.pointer (some ((ad9.add (i.toNat * 2)).add 1))) (by kernel_rfl) (by kernel_rfl) ?_
        refine ql (.int .i64 ((gx acts i).2)) (by kernel_rfl) (R_load (p := (ad9.add (i.toNat * 2)).add 1) (by kernel_rfl) (by kernel_rfl) (by kernel_rfl) (HS.old0 (Rd.elem1 (k := 1) (f := actC) (fun _ => rfl) hr (gx_eq (by omega) (by omega)) rfl))) ?_
        refine qc (f := 37) (args := #[.slice Aw xs.length cw, .int .i64 ((gx acts i).2)]) (by kernel_rfl) (R_call #[.slice Aw xs.length cw, .int .i64 ((gx acts i).2)] Try.func37 (by kernel_rfl) (by kernel_rfl) (by kernel_rfl)) ?_
        refine (rput _ _ xs ((gx acts i).2) _ (HS.get (i := 2) rfl) (by (try simp only [List.length_append, List.length_cons, List.length_nil, List.length_take] at *); omega)).mono ?_
        rintro e W16 ⟨A14, c15, rfl, H_⟩
        refine ⟨_, rfl, ?_⟩
        replace HS : St W (owns []) W16 [row A14 ((xs ++ [(gx acts i).2]).length) c15 (ci .i64 (xs ++ [(gx acts i).2])) 3 1, blk g3 [.slice A1 ((xs ++ [(gx acts i).2, i]).length) c1] 88, row A1 ((xs ++ [(gx acts i).2, i]).length) c1 (ci .i64 (xs ++ [(gx acts i).2, i])) 3 1, rde Aw (ci .i64 xs)] := HS.join (F := []) (G := [row A14 ((xs ++ [(gx acts i).2]).length) c15 (ci .i64 (xs ++ [(gx acts i).2])) 3 1]) H_
        clear H_
        have hcA14 := (St.rcap HS (i := 0) rfl).1
        simp only [List.length_append, List.length_cons, List.length_nil] at hcA14
        replace HS : St W (owns []) W16 [rde A14 (ci .i64 (xs ++ [(gx acts i).2])), blk g3 [.slice A1 ((xs ++ [(gx acts i).2, i]).length) c1] 88, row A1 ((xs ++ [(gx acts i).2, i]).length) c1 (ci .i64 (xs ++ [(gx acts i).2, i])) 3 1, rde Aw (ci .i64 xs)] := HS.to_rde (i := 0) rfl
        replace HS : St W (owns []) W16 [rde A14 (ci .i64 (xs ++ [(gx acts i).2])), blk g3 [.slice A1 ((xs ++ [(gx acts i).2, i]).length) c1] 88, row A1 ((xs ++ [(gx acts i).2, i]).length) c1 (ci .i64 (xs ++ [(gx acts i).2, i])) 3 1] := St.tail (F := [rde Aw (ci .i64 xs)]) (HS.perm (perm_ [3, 0, 1, 2] (by kernel_rfl) rfl))
        refine ql (.int .i64 i) (by kernel_rfl) (by kernel_rfl) ?_
        refine qc (f := 37) (args := #[.slice A14 ((xs ++ [(gx acts i).2]).length) c15, .int .i64 i]) (by kernel_rfl) (R_call #[.slice A14 ((xs ++ [(gx acts i).2]).length) c15, .int .i64 i] Try.func37 (by kernel_rfl) (by kernel_rfl) (by kernel_rfl)) ?_
        refine (rput _ _ (xs ++ [(gx acts i).2]) i _ (HS.get (i := 0) rfl) (by (try simp only [List.length_append, List.length_cons, List.length_nil, List.length_take] at *); omega)).mono ?_
        rintro e W19 ⟨A17, c18, rfl, H_⟩
        refine ⟨_, rfl, ?_⟩
        replace HS : St W (owns []) W19 [row A17 (((xs ++ [(gx acts i).2]) ++ [i]).length) c18 (ci .i64 ((xs ++ [(gx acts i).2]) ++ [i])) 3 1, rde A14 (ci .i64 (xs ++ [(gx acts i).2])), blk g3 [.slice A1 ((xs ++ [(gx acts i).2, i]).length) c1] 88, row A1 ((xs ++ [(gx acts i).2, i]).length) c1 (ci .i64 (xs ++ [(gx acts i).2, i])) 3 1] := HS.join (F := []) (G := [row A17 (((xs ++ [(gx acts i).2]) ++ [i]).length) c18 (ci .i64 ((xs ++ [(gx acts i).2]) ++ [i])) 3 1]) H_
        clear H_
        have hcA17 := (St.rcap HS (i := 0) rfl).1
        simp only [List.length_append, List.length_cons, List.length_nil] at hcA17
        replace HS : St W (owns []) W19 [rde A17 (ci .i64 ((xs ++ [(gx acts i).2]) ++ [i])), rde A14 (ci .i64 (xs ++ [(gx acts i).2])), blk g3 [.slice A1 ((xs ++ [(gx acts i).2, i]).length) c1] 88, row A1 ((xs ++ [(gx acts i).2, i]).length) c1 (ci .i64 (xs ++ [(gx acts i).2, i])) 3 1] := HS.to_rde (i := 0) rfl
        replace HS : St W (owns []) W19 [rde A17 (ci .i64 ((xs ++ [(gx acts i).2]) ++ [i])), blk g3 [.slice A1 ((xs ++ [(gx acts i).2, i]).length) c1] 88, row A1 ((xs ++ [(gx acts i).2, i]).length) c1 (ci .i64 (xs ++ [(gx acts i).2, i])) 3 1] := St.tail (F := [rde A14 (ci .i64 (xs ++ [(gx acts i).2]))]) (HS.perm (perm_ [1, 0, 2, 3] (by kernel_rfl) rfl))
        refine ql (.slice A17 (((xs ++ [(gx acts i).2]) ++ [i]).length) c18) (by kernel_rfl) (by kernel_rfl) ?_
        refine wpList_nil ?_
        refine x_inb ?_
        refine x_then ?_
        refine wp_seq ?_
        replace HS : St W (owns []) W19 [rde A17 (ci .i64 ((xs ++ [(gx acts i).2]) ++ [i])), blk g3 [.slice A1 (((xs ++ [(gx acts i).2]) ++ [i]).length) c1] 88, row A1 (((xs ++ [(gx acts i).2]) ++ [i]).length) c1 (ci .i64 ((xs ++ [(gx acts i).2]) ++ [i])) 3 1] := HS.cast_ (by rw [List.append_assoc]; rfl)
        have hx9 : ((xs ++ [(gx acts i).2]) ++ [i]).length ≤ 200 := by (try simp only [List.length_append, List.length_cons, List.length_nil, List.length_take] at *); omega
        refine wp_region_lit ?_
        refine ql (.slice A17 (((xs ++ [(gx acts i).2]) ++ [i]).length) c18) (by kernel_rfl) (by kernel_rfl) ?_
        refine qc (f := 57) (args := #[.slice A17 (((xs ++ [(gx acts i).2]) ++ [i]).length) c18]) (by kernel_rfl) (R_call #[.slice A17 (((xs ++ [(gx acts i).2]) ++ [i]).length) c18] Try.func57 (by kernel_rfl) (by kernel_rfl) (by kernel_rfl)) ?_
        by_cases hn20 : ((xs ++ [(gx acts i).2]) ++ [i]).length = 0
        · skip
          refine (last_nil _ c18 ((xs ++ [(gx acts i).2]) ++ [i]) _ (HS.get (i := 0) rfl) (by omega) (by omega) (by (try simp only [List.length_append, List.length_cons, List.length_nil, List.length_take] at *); omega)).mono ?_
          rintro e W21 ⟨rfl, H_⟩
          refine ⟨_, rfl, ?_⟩
          replace HS : St W (owns []) W21 [rde A17 (ci .i64 ((xs ++ [(gx acts i).2]) ++ [i])), blk g3 [.slice A1 (((xs ++ [(gx acts i).2]) ++ [i]).length) c1] 88, row A1 (((xs ++ [(gx acts i).2]) ++ [i]).length) c1 (ci .i64 ((xs ++ [(gx acts i).2]) ++ [i])) 3 1] := HS.join (F := []) (G := []) H_
          clear H_
          refine ql (.tuple #[.slice A17 (((xs ++ [(gx acts i).2]) ++ [i]).length) c18, .int .i64 0, .bool false]) (by kernel_rfl) (by kernel_rfl) ?_
          refine ql (.slice A17 (((xs ++ [(gx acts i).2]) ++ [i]).length) c18) (by kernel_rfl) (by kernel_rfl) ?_
          refine ql (.int .i64 0) (by kernel_rfl) (by kernel_rfl) ?_
          refine ql (.bool false) (by kernel_rfl) (by kernel_rfl) ?_
          refine ql (.slice A17 (((xs ++ [(gx acts i).2]) ++ [i]).length) c18) (by kernel_rfl) (by kernel_rfl) ?_
          refine ql (.int .i64 0) (by kernel_rfl) (by kernel_rfl) ?_
          refine ql (.bool false) (by kernel_rfl) (by kernel_rfl) ?_
          refine wpList_nil ?_
          refine x_then ?_
          refine wp_seq ?_
          refine wp_region_lit ?_
          refine qc (f := 62) (args := #[.pointer (some ⟨g3, 0, none⟩)]) (by kernel_rfl) (R_call #[.pointer (some ⟨g3, 0, none⟩)] Try.func62 (by kernel_rfl) (by kernel_rfl) (by kernel_rfl)) ?_
          refine (top_nil _ _ _ ((xs ++ [(gx acts i).2]) ++ [i]) _ (HS.cell (i := 1) (j := 0) rfl rfl) (Rd.row HS (i := 2) rfl) (by omega) (by omega)).mono ?_
          rintro e W22 ⟨rfl, H_⟩
          refine ⟨_, rfl, ?_⟩
          replace HS : St W (owns []) W22 [rde A17 (ci .i64 ((xs ++ [(gx acts i).2]) ++ [i])), blk g3 [.slice A1 (((xs ++ [(gx acts i).2]) ++ [i]).length) c1] 88, row A1 (((xs ++ [(gx acts i).2]) ++ [i]).length) c1 (ci .i64 ((xs ++ [(gx acts i).2]) ++ [i])) 3 1] := HS.join (F := []) (G := []) H_
          clear H_
          refine ql (.tuple #[.int .i64 0, .bool false]) (by kernel_rfl) (by kernel_rfl) ?_
          refine ql (.int .i64 0) (by kernel_rfl) (by kernel_rfl) ?_
          refine ql (.bool false) (by kernel_rfl) (by kernel_rfl) ?_
          refine ql (.int .i64 0) (by kernel_rfl) (by kernel_rfl) ?_
          refine ql (.bool false) (by kernel_rfl) (by kernel_rfl) ?_
          refine wpList_nil ?_
          refine x_then ?_
          refine wp_seq ?_
          refine wp_region_lit ?_
          refine qc (f := 63) (args := #[.pointer (some ⟨g3, 0, none⟩)]) (by kernel_rfl) (R_call #[.pointer (some ⟨g3, 0, none⟩)] Try.func63 (by kernel_rfl) (by kernel_rfl) (by kernel_rfl)) ?_
          refine (slen _ _ _ ((xs ++ [(gx acts i).2]) ++ [i]) _ (HS.cell (i := 1) (j := 0) rfl rfl)).mono ?_
          rintro e W23 ⟨rfl, H_⟩
          refine ⟨_, rfl, ?_⟩
          replace HS : St W (owns []) W23 [rde A17 (ci .i64 ((xs ++ [(gx acts i).2]) ++ [i])), blk g3 [.slice A1 (((xs ++ [(gx acts i).2]) ++ [i]).length) c1] 88, row A1 (((xs ++ [(gx acts i).2]) ++ [i]).length) c1 (ci .i64 ((xs ++ [(gx acts i).2]) ++ [i])) 3 1] := HS.join (F := []) (G := []) H_
          clear H_
          refine ql (.slice A17 (((xs ++ [(gx acts i).2]) ++ [i]).length) c18) (by kernel_rfl) (by kernel_rfl) ?_
          refine ql (.int .i64 (((xs ++ [(gx acts i).2]) ++ [i]).length : Int)) (by kernel_rfl) (by kernel_rfl) ?_
          refine ql (.bool false) (by kernel_rfl) (R_beq (b := ((((xs ++ [(gx acts i).2]) ++ [i]).length : Int) != (((xs ++ [(gx acts i).2]) ++ [i]).length : Int))) (by kernel_rfl) (bne_f (by omega))) ?_
          refine ql (.bool false) (by kernel_rfl) (by kernel_rfl) ?_
          refine ql (.int .i64 0) (by kernel_rfl) (by kernel_rfl) ?_
          refine ql (.int .i64 0) (by kernel_rfl) (by kernel_rfl) ?_
          refine ql (.bool false) (by kernel_rfl) (R_beq (b := ((0 : Int) != 0)) (by kernel_rfl) (by decide)) ?_
          refine ql (.bool false) (by kernel_rfl) (by kernel_rfl) ?_
          refine ql (.bool false) (by kernel_rfl) (by kernel_rfl) ?_
          refine ql (.bool false) (by kernel_rfl) (by kernel_rfl) ?_
          refine ql (.bool false) (by kernel_rfl) (by kernel_rfl) ?_
          refine ql (.bool false) (by kernel_rfl) (by kernel_rfl) ?_
          refine ql (.bool false) (by kernel_rfl) (by kernel_rfl) ?_
          refine wpList_nil ?_
          refine x_then ?_
          refine wp_cond_false (by kernel_rfl) ?_
          refine wp_skip ?_
          refine x_inb ?_
          refine x_then ?_
          refine wp_region_lit ?_
          refine ql (.int .i64 i) (by kernel_rfl) (by kernel_rfl) ?_
          refine ql (.int .i64 (i + 1)) (by kernel_rfl) (R_int (by kernel_rfl) (w64 (by omega))) ?_
          refine ql (.int .i64 (i + 1)) (by kernel_rfl) (by kernel_rfl) ?_
          refine wpList_nil ?_
          replace HS : St W (owns []) W23 [blk g3 [.slice A1 (((xs ++ [(gx acts i).2]) ++ [i]).length) c1] 88, row A1 (((xs ++ [(gx acts i).2]) ++ [i]).length) c1 (ci .i64 ((xs ++ [(gx acts i).2]) ++ [i])) 3 1, rde A17 (ci .i64 ((xs ++ [(gx acts i).2]) ++ [i]))] := St.tail (F := []) (HS.perm (perm_ [1, 2, 0] (by kernel_rfl) rfl))
          refine x_then ?_
          exact ⟨acts.length - (i + 1).toNat, by omega, (fun k_ : Nat => List.getD ((.slice (some ad9) acts.length c) :: undef :: ((J5 2)) :: (.pointer (some ⟨g3, 0, none⟩)) :: (.slice A17 (((xs ++ [(gx acts i).2]) ++ [i]).length) c18) :: (.int .i64 (i + 1)) :: ((J5 6)) :: ((J5 7)) :: ((J5 8)) :: ((J5 9)) :: ((J5 10)) :: ((J5 11)) :: ((J5 12)) :: (.slice A17 (((xs ++ [(gx acts i).2]) ++ [i]).length) c18) :: (.int .i64 0) :: (.bool false) :: (.int .i64 0) :: (.bool false) :: (.slice (some ad9) acts.length c) :: (.int .i64 (acts.length : Int)) :: (.bool false) :: undef :: (.int .i64 i) :: (.slice (some ad9) acts.length c) :: (.int .i64 (acts.length : Int)) :: (.bool true) :: (.int .i64 i) :: (.int .i64 (i + 1)) :: (.slice (some ad9) acts.length c) :: (.int .i64 i) :: (.pointer (some (ad9.add (i.toNat * 2)))) :: (.pointer (some (ad9.add (i.toNat * 2)))) :: (.int .i64 ((gx acts i).1)) :: (.bool true) :: (.bool true) :: (.slice (some ad9) acts.length c) :: (.int .i64 i) :: (.pointer (some (ad9.add (i.toNat * 2)))) :: (.pointer (some ((ad9.add (i.toNat * 2)).add 1))) :: (.int .i64 ((gx acts i).2)) :: (.int .i64 i) :: (.slice (some ⟨g11, 0, none⟩) 2 2) :: (.tuple #[]) :: (.slice Aw xs.length cw) :: (.slice (some ad9) acts.length c) :: (.int .i64 i) :: (.pointer (some (ad9.add (i.toNat * 2)))) :: (.pointer (some ((ad9.add (i.toNat * 2)).add 1))) :: (.int .i64 ((gx acts i).2)) :: (.slice A14 ((xs ++ [(gx acts i).2]).length) c15) :: (.int .i64 i) :: (.slice A17 (((xs ++ [(gx acts i).2]) ++ [i]).length) c18) :: ((J5 52)) :: ((J5 53)) :: ((J5 54)) :: ((J5 55)) :: ((J5 56)) :: ((J5 57)) :: ((J5 58)) :: ((J5 59)) :: ((J5 60)) :: ((J5 61)) :: ((J5 62)) :: ((J5 63)) :: ((J5 64)) :: ((J5 65)) :: ((J5 66)) :: ((J5 67)) :: ((J5 68)) :: ((J5 69)) :: ((J5 70)) :: ((J5 71)) :: ((J5 72)) :: ((J5 73)) :: ((J5 74)) :: ((J5 75)) :: ((J5 76)) :: ((J5 77)) :: ((J5 78)) :: ((J5 79)) :: ((J5 80)) :: ((J5 81)) :: ((J5 82)) :: ((J5 83)) :: ((J5 84)) :: ((J5 85)) :: ((J5 86)) :: ((J5 87)) :: ((J5 88)) :: ((J5 89)) :: ((J5 90)) :: ((J5 91)) :: ((J5 92)) :: ((J5 93)) :: ((J5 94)) :: (.tuple #[.slice A17 (((xs ++ [(gx acts i).2]) ++ [i]).length) c18, .int .i64 0, .bool false]) :: (.slice A17 (((xs ++ [(gx acts i).2]) ++ [i]).length) c18) :: (.tuple #[.slice A17 (((xs ++ [(gx acts i).2]) ++ [i]).length) c18, .int .i64 0, .bool false]) :: (.slice A17 (((xs ++ [(gx acts i).2]) ++ [i]).length) c18) :: (.int .i64 0) :: (.bool false) :: (.tuple #[.int .i64 0, .bool false]) :: (.tuple #[.int .i64 0, .bool false]) :: (.int .i64 0) :: (.bool false) :: (.int .i64 (((xs ++ [(gx acts i).2]) ++ [i]).length : Int)) :: (.slice A17 (((xs ++ [(gx acts i).2]) ++ [i]).length) c18) :: (.int .i64 (((xs ++ [(gx acts i).2]) ++ [i]).length : Int)) :: (.bool false) :: (.bool false) :: (.int .i64 0) :: (.int .i64 0) :: (.bool false) :: (.bool false) :: (.bool false) :: (.bool false) :: (.bool false) :: (.bool false) :: (.bool false) :: undef :: []) k_ undef), i + 1, A1, c1, ((xs ++ [(gx acts i).2]) ++ [i]), A17, c18, congrArg Fr (by kernel_rfl), rfl, by omega, by omega, by (try simp only [List.length_append, List.length_cons, List.length_nil, List.length_take] at *); omega, by (try simp only [List.length_append, List.length_cons, List.length_nil, List.length_take] at *); omega, HS⟩
        · skip
          obtain ⟨q9, hq9⟩ : ∃ z_ : List Int, z_ = ((xs ++ [(gx acts i).2]) ++ [i]).take (((xs ++ [(gx acts i).2]) ++ [i]).length - 1) := ⟨_, rfl⟩
          refine (last_some _ c18 ((xs ++ [(gx acts i).2]) ++ [i]) _ (HS.get (i := 0) rfl) (by omega) (by (try simp only [List.length_append, List.length_cons, List.length_nil, List.length_take] at *); omega) (by (try simp only [List.length_append, List.length_cons, List.length_nil, List.length_take] at *); omega) q9 hq9).mono ?_
          rintro e W24 ⟨rfl, H_⟩
          refine ⟨_, rfl, ?_⟩
          replace HS : St W (owns []) W24 [rde A17 (ci .i64 ((xs ++ [(gx acts i).2]) ++ [i])), blk g3 [.slice A1 (((xs ++ [(gx acts i).2]) ++ [i]).length) c1] 88, row A1 (((xs ++ [(gx acts i).2]) ++ [i]).length) c1 (ci .i64 ((xs ++ [(gx acts i).2]) ++ [i])) 3 1] := HS.join (F := []) (G := []) H_
          clear H_
          refine ql (.tuple #[.slice A17 q9.length c18, .int .i64 (rdI ((xs ++ [(gx acts i).2]) ++ [i]) ((((xs ++ [(gx acts i).2]) ++ [i]).length : Int) - 1)), .bool true]) (by kernel_rfl) (by kernel_rfl) ?_
          refine ql (.slice A17 q9.length c18) (by kernel_rfl) (by kernel_rfl) ?_
          refine ql (.int .i64 (rdI ((xs ++ [(gx acts i).2]) ++ [i]) ((((xs ++ [(gx acts i).2]) ++ [i]).length : Int) - 1))) (by kernel_rfl) (by kernel_rfl) ?_
          refine ql (.bool true) (by kernel_rfl) (by kernel_rfl) ?_
          refine ql (.slice A17 q9.length c18) (by kernel_rfl) (by kernel_rfl) ?_
          refine ql (.int .i64 (rdI ((xs ++ [(gx acts i).2]) ++ [i]) ((((xs ++ [(gx acts i).2]) ++ [i]).length : Int) - 1))) (by kernel_rfl) (by kernel_rfl) ?_
          refine ql (.bool true) (by kernel_rfl) (by kernel_rfl) ?_
          refine wpList_nil ?_
          refine x_then ?_
          refine wp_seq ?_
          refine wp_region_lit ?_
          refine qc (f := 62) (args := #[.pointer (some ⟨g3, 0, none⟩)]) (by kernel_rfl) (R_call #[.pointer (some ⟨g3, 0, none⟩)] Try.func62 (by kernel_rfl) (by kernel_rfl) (by kernel_rfl)) ?_
          refine (top_some _ _ _ ((xs ++ [(gx acts i).2]) ++ [i]) _ (HS.cell (i := 1) (j := 0) rfl rfl) (Rd.row HS (i := 2) rfl) (by omega) (by (try simp only [List.length_append, List.length_cons, List.length_nil, List.length_take] at *); omega)).mono ?_
          rintro e W25 ⟨rfl, H_⟩
          refine ⟨_, rfl, ?_⟩
          replace HS : St W (owns []) W25 [rde A17 (ci .i64 ((xs ++ [(gx acts i).2]) ++ [i])), blk g3 [.slice A1 (((xs ++ [(gx acts i).2]) ++ [i]).length) c1] 88, row A1 (((xs ++ [(gx acts i).2]) ++ [i]).length) c1 (ci .i64 ((xs ++ [(gx acts i).2]) ++ [i])) 3 1] := HS.join (F := []) (G := []) H_
          clear H_
          refine ql (.tuple #[.int .i64 (rdI ((xs ++ [(gx acts i).2]) ++ [i]) ((((xs ++ [(gx acts i).2]) ++ [i]).length : Int) - 1)), .bool true]) (by kernel_rfl) (by kernel_rfl) ?_
          refine ql (.int .i64 (rdI ((xs ++ [(gx acts i).2]) ++ [i]) ((((xs ++ [(gx acts i).2]) ++ [i]).length : Int) - 1))) (by kernel_rfl) (by kernel_rfl) ?_
          refine ql (.bool true) (by kernel_rfl) (by kernel_rfl) ?_
          refine ql (.int .i64 (rdI ((xs ++ [(gx acts i).2]) ++ [i]) ((((xs ++ [(gx acts i).2]) ++ [i]).length : Int) - 1))) (by kernel_rfl) (by kernel_rfl) ?_
          refine ql (.bool true) (by kernel_rfl) (by kernel_rfl) ?_
          refine wpList_nil ?_
          refine x_then ?_
          refine wp_seq ?_
          refine wp_region_lit ?_
          refine qc (f := 63) (args := #[.pointer (some ⟨g3, 0, none⟩)]) (by kernel_rfl) (R_call #[.pointer (some ⟨g3, 0, none⟩)] Try.func63 (by kernel_rfl) (by kernel_rfl) (by kernel_rfl)) ?_
          refine (slen _ _ _ ((xs ++ [(gx acts i).2]) ++ [i]) _ (HS.cell (i := 1) (j := 0) rfl rfl)).mono ?_
          rintro e W26 ⟨rfl, H_⟩
          refine ⟨_, rfl, ?_⟩
          replace HS : St W (owns []) W26 [rde A17 (ci .i64 ((xs ++ [(gx acts i).2]) ++ [i])), blk g3 [.slice A1 (((xs ++ [(gx acts i).2]) ++ [i]).length) c1] 88, row A1 (((xs ++ [(gx acts i).2]) ++ [i]).length) c1 (ci .i64 ((xs ++ [(gx acts i).2]) ++ [i])) 3 1] := HS.join (F := []) (G := []) H_
          clear H_
          refine ql (.slice A17 (((xs ++ [(gx acts i).2]) ++ [i]).length) c18) (by kernel_rfl) (by kernel_rfl) ?_
          refine ql (.int .i64 (((xs ++ [(gx acts i).2]) ++ [i]).length : Int)) (by kernel_rfl) (by kernel_rfl) ?_
          refine ql (.bool false) (by kernel_rfl) (R_beq (b := ((((xs ++ [(gx acts i).2]) ++ [i]).length : Int) != (((xs ++ [(gx acts i).2]) ++ [i]).length : Int))) (by kernel_rfl) (bne_f (by omega))) ?_
          refine ql (.bool false) (by kernel_rfl) (by kernel_rfl) ?_
          refine ql (.int .i64 (rdI ((xs ++ [(gx acts i).2]) ++ [i]) ((((xs ++ [(gx acts i).2]) ++ [i]).length : Int) - 1))) (by kernel_rfl) (by kernel_rfl) ?_
          refine ql (.int .i64 (rdI ((xs ++ [(gx acts i).2]) ++ [i]) ((((xs ++ [(gx acts i).2]) ++ [i]).length : Int) - 1))) (by kernel_rfl) (by kernel_rfl) ?_
          refine ql (.bool false) (by kernel_rfl) (R_beq (b := (rdI ((xs ++ [(gx acts i).2]) ++ [i]) ((((xs ++ [(gx acts i).2]) ++ [i]).length : Int) - 1) != rdI ((xs ++ [(gx acts i).2]) ++ [i]) ((((xs ++ [(gx acts i).2]) ++ [i]).length : Int) - 1))) (by kernel_rfl) (bne_f (by omega))) ?_
          refine ql (.bool false) (by kernel_rfl) (by kernel_rfl) ?_
          refine ql (.bool false) (by kernel_rfl) (by kernel_rfl) ?_
          refine ql (.bool true) (by kernel_rfl) (by kernel_rfl) ?_
          refine ql (.bool true) (by kernel_rfl) (by kernel_rfl) ?_
          refine ql (.bool false) (by kernel_rfl) (by kernel_rfl) ?_
          refine ql (.bool false) (by kernel_rfl) (by kernel_rfl) ?_
          refine wpList_nil ?_
          refine x_then ?_
          refine wp_cond_false (by kernel_rfl) ?_
          refine wp_skip ?_
          refine x_inb ?_
          refine x_then ?_
          refine wp_region_lit ?_
          refine ql (.int .i64 i) (by kernel_rfl) (by kernel_rfl) ?_
          refine ql (.int .i64 (i + 1)) (by kernel_rfl) (R_int (by kernel_rfl) (w64 (by omega))) ?_
          refine ql (.int .i64 (i + 1)) (by kernel_rfl) (by kernel_rfl) ?_
          refine wpList_nil ?_
          replace HS : St W (owns []) W26 [blk g3 [.slice A1 (((xs ++ [(gx acts i).2]) ++ [i]).length) c1] 88, row A1 (((xs ++ [(gx acts i).2]) ++ [i]).length) c1 (ci .i64 ((xs ++ [(gx acts i).2]) ++ [i])) 3 1, rde A17 (ci .i64 ((xs ++ [(gx acts i).2]) ++ [i]))] := St.tail (F := []) (HS.perm (perm_ [1, 2, 0] (by kernel_rfl) rfl))
          refine x_then ?_
          exact ⟨acts.length - (i + 1).toNat, by omega, (fun k_ : Nat => List.getD ((.slice (some ad9) acts.length c) :: undef :: ((J5 2)) :: (.pointer (some ⟨g3, 0, none⟩)) :: (.slice A17 (((xs ++ [(gx acts i).2]) ++ [i]).length) c18) :: (.int .i64 (i + 1)) :: ((J5 6)) :: ((J5 7)) :: ((J5 8)) :: ((J5 9)) :: ((J5 10)) :: ((J5 11)) :: ((J5 12)) :: (.slice A17 q9.length c18) :: (.int .i64 (rdI ((xs ++ [(gx acts i).2]) ++ [i]) ((((xs ++ [(gx acts i).2]) ++ [i]).length : Int) - 1))) :: (.bool true) :: (.int .i64 (rdI ((xs ++ [(gx acts i).2]) ++ [i]) ((((xs ++ [(gx acts i).2]) ++ [i]).length : Int) - 1))) :: (.bool true) :: (.slice (some ad9) acts.length c) :: (.int .i64 (acts.length : Int)) :: (.bool false) :: undef :: (.int .i64 i) :: (.slice (some ad9) acts.length c) :: (.int .i64 (acts.length : Int)) :: (.bool true) :: (.int .i64 i) :: (.int .i64 (i + 1)) :: (.slice (some ad9) acts.length c) :: (.int .i64 i) :: (.pointer (some (ad9.add (i.toNat * 2)))) :: (.pointer (some (ad9.add (i.toNat * 2)))) :: (.int .i64 ((gx acts i).1)) :: (.bool true) :: (.bool true) :: (.slice (some ad9) acts.length c) :: (.int .i64 i) :: (.pointer (some (ad9.add (i.toNat * 2)))) :: (.pointer (some ((ad9.add (i.toNat * 2)).add 1))) :: (.int .i64 ((gx acts i).2)) :: (.int .i64 i) :: (.slice (some ⟨g11, 0, none⟩) 2 2) :: (.tuple #[]) :: (.slice Aw xs.length cw) :: (.slice (some ad9) acts.length c) :: (.int .i64 i) :: (.pointer (some (ad9.add (i.toNat * 2)))) :: (.pointer (some ((ad9.add (i.toNat * 2)).add 1))) :: (.int .i64 ((gx acts i).2)) :: (.slice A14 ((xs ++ [(gx acts i).2]).length) c15) :: (.int .i64 i) :: (.slice A17 (((xs ++ [(gx acts i).2]) ++ [i]).length) c18) :: ((J5 52)) :: ((J5 53)) :: ((J5 54)) :: ((J5 55)) :: ((J5 56)) :: ((J5 57)) :: ((J5 58)) :: ((J5 59)) :: ((J5 60)) :: ((J5 61)) :: ((J5 62)) :: ((J5 63)) :: ((J5 64)) :: ((J5 65)) :: ((J5 66)) :: ((J5 67)) :: ((J5 68)) :: ((J5 69)) :: ((J5 70)) :: ((J5 71)) :: ((J5 72)) :: ((J5 73)) :: ((J5 74)) :: ((J5 75)) :: ((J5 76)) :: ((J5 77)) :: ((J5 78)) :: ((J5 79)) :: ((J5 80)) :: ((J5 81)) :: ((J5 82)) :: ((J5 83)) :: ((J5 84)) :: ((J5 85)) :: ((J5 86)) :: ((J5 87)) :: ((J5 88)) :: ((J5 89)) :: ((J5 90)) :: ((J5 91)) :: ((J5 92)) :: ((J5 93)) :: ((J5 94)) :: (.tuple #[.slice A17 q9.length c18, .int .i64 (rdI ((xs ++ [(gx acts i).2]) ++ [i]) ((((xs ++ [(gx acts i).2]) ++ [i]).length : Int) - 1)), .bool true]) :: (.slice A17 (((xs ++ [(gx acts i).2]) ++ [i]).length) c18) :: (.tuple #[.slice A17 q9.length c18, .int .i64 (rdI ((xs ++ [(gx acts i).2]) ++ [i]) ((((xs ++ [(gx acts i).2]) ++ [i]).length : Int) - 1)), .bool true]) :: (.slice A17 q9.length c18) :: (.int .i64 (rdI ((xs ++ [(gx acts i).2]) ++ [i]) ((((xs ++ [(gx acts i).2]) ++ [i]).length : Int) - 1))) :: (.bool true) :: (.tuple #[.int .i64 (rdI ((xs ++ [(gx acts i).2]) ++ [i]) ((((xs ++ [(gx acts i).2]) ++ [i]).length : Int) - 1)), .bool true]) :: (.tuple #[.int .i64 (rdI ((xs ++ [(gx acts i).2]) ++ [i]) ((((xs ++ [(gx acts i).2]) ++ [i]).length : Int) - 1)), .bool true]) :: (.int .i64 (rdI ((xs ++ [(gx acts i).2]) ++ [i]) ((((xs ++ [(gx acts i).2]) ++ [i]).length : Int) - 1))) :: (.bool true) :: (.int .i64 (((xs ++ [(gx acts i).2]) ++ [i]).length : Int)) :: (.slice A17 (((xs ++ [(gx acts i).2]) ++ [i]).length) c18) :: (.int .i64 (((xs ++ [(gx acts i).2]) ++ [i]).length : Int)) :: (.bool false) :: (.bool false) :: (.int .i64 (rdI ((xs ++ [(gx acts i).2]) ++ [i]) ((((xs ++ [(gx acts i).2]) ++ [i]).length : Int) - 1))) :: (.int .i64 (rdI ((xs ++ [(gx acts i).2]) ++ [i]) ((((xs ++ [(gx acts i).2]) ++ [i]).length : Int) - 1))) :: (.bool false) :: (.bool false) :: (.bool false) :: (.bool true) :: (.bool true) :: (.bool false) :: (.bool false) :: undef :: []) k_ undef), i + 1, A1, c1, ((xs ++ [(gx acts i).2]) ++ [i]), A17, c18, congrArg Fr (by kernel_rfl), rfl, by omega, by omega, by (try simp only [List.length_append, List.length_cons, List.length_nil, List.length_take] at *); omega, by (try simp only [List.length_append, List.length_cons, List.length_nil, List.length_take] at *); omega, HS⟩
      · skip
        refine ql (.bool false) (by kernel_rfl) (R_beq (b := ((gx acts i).1 == (0 : Int))) (by kernel_rfl) (beq_f (hc10))) ?_
        refine ql (.bool false) (by kernel_rfl) (by kernel_rfl) ?_
        refine wpList_nil ?_
        refine x_then ?_
        refine wp_cond_false (by kernel_rfl) ?_
        refine wp_seq ?_
        refine wp_region_lit ?_
        by_cases hc27 : ((gx acts i).1) = (1 : Int)
        · skip
          refine ql (.bool true) (by kernel_rfl) (R_beq (b := ((gx acts i).1 == (1 : Int))) (by kernel_rfl) (beq_t (hc27))) ?_
          refine ql (.bool true) (by kernel_rfl) (by kernel_rfl) ?_
          refine wpList_nil ?_
          refine x_then ?_
          refine wp_cond_true (by kernel_rfl) ?_
          refine wp_seq ?_
          refine wp_region_lit ?_
          refine ql (.slice Aw xs.length cw) (by kernel_rfl) (by kernel_rfl) ?_
          refine qc (f := 57) (args := #[.slice Aw xs.length cw]) (by kernel_rfl) (R_call #[.slice Aw xs.length cw] Try.func57 (by kernel_rfl) (by kernel_rfl) (by kernel_rfl)) ?_
          by_cases hn28 : xs.length = 0
          · skip
            refine (last_nil _ cw xs _ (HS.get (i := 2) rfl) (by omega) (by omega) (by (try simp only [List.length_append, List.length_cons, List.length_nil, List.length_take] at *); omega)).mono ?_
            rintro e W29 ⟨rfl, H_⟩
            refine ⟨_, rfl, ?_⟩
            replace HS : St W (owns []) W29 [blk g3 [.slice As xs.length cs_] 88, row As xs.length cs_ (ci .i64 xs) 3 1, rde Aw (ci .i64 xs)] := HS.join (F := []) (G := []) H_
            clear H_
            refine ql (.tuple #[.slice Aw xs.length cw, .int .i64 0, .bool false]) (by kernel_rfl) (by kernel_rfl) ?_
            refine ql (.slice Aw xs.length cw) (by kernel_rfl) (by kernel_rfl) ?_
            refine ql (.int .i64 0) (by kernel_rfl) (by kernel_rfl) ?_
            refine ql (.bool false) (by kernel_rfl) (by kernel_rfl) ?_
            refine ql (.slice Aw xs.length cw) (by kernel_rfl) (by kernel_rfl) ?_
            refine ql (.int .i64 0) (by kernel_rfl) (by kernel_rfl) ?_
            refine ql (.bool false) (by kernel_rfl) (by kernel_rfl) ?_
            refine wpList_nil ?_
            refine x_then ?_
            refine wp_seq ?_
            refine wp_region_lit ?_
            refine qc (f := 58) (args := #[.pointer (some ⟨g3, 0, none⟩)]) (by kernel_rfl) (R_call #[.pointer (some ⟨g3, 0, none⟩)] Try.func58 (by kernel_rfl) (by kernel_rfl) (by kernel_rfl)) ?_
            refine (pop_nil g3 _ cs_ xs _ _ (St.focus (F := [blk g3 [.slice As xs.length cs_] 88, row As xs.length cs_ (ci .i64 xs) 3 1]) HS) (by omega) (by omega)).mono ?_
            rintro e W30 ⟨rfl, H_⟩
            refine ⟨_, rfl, ?_⟩
            replace HS : St W (owns []) W30 [blk g3 [.slice As xs.length cs_] 88, row As xs.length cs_ (ci .i64 xs) 3 1, rde Aw (ci .i64 xs)] := HS.join (F := [blk g3 [.slice As xs.length cs_] 88, row As xs.length cs_ (ci .i64 xs) 3 1]) (G := [blk g3 [.slice As xs.length cs_] 88, row As xs.length cs_ (ci .i64 xs) 3 1]) H_
            clear H_
            refine ql (.tuple #[.int .i64 0, .bool false]) (by kernel_rfl) (by kernel_rfl) ?_
            refine ql (.int .i64 0) (by kernel_rfl) (by kernel_rfl) ?_
            refine ql (.bool false) (by kernel_rfl) (by kernel_rfl) ?_
            refine ql (.int .i64 0) (by kernel_rfl) (by kernel_rfl) ?_
            refine ql (.bool false) (by kernel_rfl) (by kernel_rfl) ?_
            refine wpList_nil ?_
            refine x_then ?_
            refine wp_seq ?_
            refine wp_region_lit ?_
            refine ql (.slice Aw xs.length cw) (by kernel_rfl) (by kernel_rfl) ?_
            refine ql (.slice Aw xs.length cw) (by kernel_rfl) (by kernel_rfl) ?_
            refine wpList_nil ?_
            refine x_then ?_
            refine wp_seq ?_
            refine wp_region_lit ?_
            refine ql (.int .i64 0) (by kernel_rfl) (by kernel_rfl) ?_
            refine ql (.int .i64 0) (by kernel_rfl) (by kernel_rfl) ?_
            refine ql (.bool false) (by kernel_rfl) (R_beq (b := ((0 : Int) != 0)) (by kernel_rfl) (by decide)) ?_
            refine ql (.bool false) (by kernel_rfl) (by kernel_rfl) ?_
            refine ql (.bool false) (by kernel_rfl) (by kernel_rfl) ?_
            refine ql (.bool false) (by kernel_rfl) (by kernel_rfl) ?_
            refine ql (.bool false) (by kernel_rfl) (by kernel_rfl) ?_
            refine ql (.bool false) (by kernel_rfl) (by kernel_rfl) ?_
            refine wpList_nil ?_
            refine x_then ?_
            refine wp_cond_false (by kernel_rfl) ?_
            refine wp_skip ?_
            refine x_inb ?_
            refine x_then ?_
            refine wp_seq ?_
            have hx9 : xs.length ≤ 200 := by (try simp only [List.length_append, List.length_cons, List.length_nil, List.length_take] at *); omega
            refine wp_region_lit ?_
            refine ql (.slice Aw xs.length cw) (by kernel_rfl) (by kernel_rfl) ?_
            refine qc (f := 57) (args := #[.slice Aw xs.length cw]) (by kernel_rfl) (R_call #[.slice Aw xs.length cw] Try.func57 (by kernel_rfl) (by kernel_rfl) (by kernel_rfl)) ?_
            refine (last_nil _ cw xs _ (HS.get (i := 2) rfl) (by omega) (by omega) (by (try simp only [List.length_append, List.length_cons, List.length_nil, List.length_take] at *); omega)).mono ?_
            rintro e W31 ⟨rfl, H_⟩
            refine ⟨_, rfl, ?_⟩
            replace HS : St W (owns []) W31 [blk g3 [.slice As xs.length cs_] 88, row As xs.length cs_ (ci .i64 xs) 3 1, rde Aw (ci .i64 xs)] := HS.join (F := []) (G := []) H_
            clear H_
            refine ql (.tuple #[.slice Aw xs.length cw, .int .i64 0, .bool false]) (by kernel_rfl) (by kernel_rfl) ?_
            refine ql (.slice Aw xs.length cw) (by kernel_rfl) (by kernel_rfl) ?_
            refine ql (.int .i64 0) (by kernel_rfl) (by kernel_rfl) ?_
            refine ql (.bool false) (by kernel_rfl) (by kernel_rfl) ?_
            refine ql (.slice Aw xs.length cw) (by kernel_rfl) (by kernel_rfl) ?_
            refine ql (.int .i64 0) (by kernel_rfl) (by kernel_rfl) ?_
            refine ql (.bool false) (by kernel_rfl) (by kernel_rfl) ?_
            refine wpList_nil ?_
            refine x_then ?_
            refine wp_seq ?_
            refine wp_region_lit ?_
            refine qc (f := 62) (args := #[.pointer (some ⟨g3, 0, none⟩)]) (by kernel_rfl) (R_call #[.pointer (some ⟨g3, 0, none⟩)] Try.func62 (by kernel_rfl) (by kernel_rfl) (by kernel_rfl)) ?_
            refine (top_nil _ _ _ xs _ (HS.cell (i := 0) (j := 0) rfl rfl) (Rd.row HS (i := 1) rfl) (by omega) (by omega)).mono ?_
            rintro e W32 ⟨rfl, H_⟩
            refine ⟨_, rfl, ?_⟩
            replace HS : St W (owns []) W32 [blk g3 [.slice As xs.length cs_] 88, row As xs.length cs_ (ci .i64 xs) 3 1, rde Aw (ci .i64 xs)] := HS.join (F := []) (G := []) H_
            clear H_
            refine ql (.tuple #[.int .i64 0, .bool false]) (by kernel_rfl) (by kernel_rfl) ?_
            refine ql (.int .i64 0) (by kernel_rfl) (by kernel_rfl) ?_
            refine ql (.bool false) (by kernel_rfl) (by kernel_rfl) ?_
            refine ql (.int .i64 0) (by kernel_rfl) (by kernel_rfl) ?_
            refine ql (.bool false) (by kernel_rfl) (by kernel_rfl) ?_
            refine wpList_nil ?_
            refine x_then ?_
            refine wp_seq ?_
            refine wp_region_lit ?_
            refine qc (f := 63) (args := #[.pointer (some ⟨g3, 0, none⟩)]) (by kernel_rfl) (R_call #[.pointer (some ⟨g3, 0, none⟩)] Try.func63 (by kernel_rfl) (by kernel_rfl) (by kernel_rfl)) ?_
            refine (slen _ _ _ xs _ (HS.cell (i := 0) (j := 0) rfl rfl)).mono ?_
            rintro e W33 ⟨rfl, H_⟩
            refine ⟨_, rfl, ?_⟩
            replace HS : St W (owns []) W33 [blk g3 [.slice As xs.length cs_] 88, row As xs.length cs_ (ci .i64 xs) 3 1, rde Aw (ci .i64 xs)] := HS.join (F := []) (G := []) H_
            clear H_
            refine ql (.slice Aw xs.length cw) (by kernel_rfl) (by kernel_rfl) ?_
            refine ql (.int .i64 (xs.length : Int)) (by kernel_rfl) (by kernel_rfl) ?_
            refine ql (.bool false) (by kernel_rfl) (R_beq (b := ((xs.length : Int) != (xs.length : Int))) (by kernel_rfl) (bne_f (by omega))) ?_
            refine ql (.bool false) (by kernel_rfl) (by kernel_rfl) ?_
            refine ql (.int .i64 0) (by kernel_rfl) (by kernel_rfl) ?_
            refine ql (.int .i64 0) (by kernel_rfl) (by kernel_rfl) ?_
            refine ql (.bool false) (by kernel_rfl) (R_beq (b := ((0 : Int) != 0)) (by kernel_rfl) (by decide)) ?_
            refine ql (.bool false) (by kernel_rfl) (by kernel_rfl) ?_
            refine ql (.bool false) (by kernel_rfl) (by kernel_rfl) ?_
            refine ql (.bool false) (by kernel_rfl) (by kernel_rfl) ?_
            refine ql (.bool false) (by kernel_rfl) (by kernel_rfl) ?_
            refine ql (.bool false) (by kernel_rfl) (by kernel_rfl) ?_
            refine ql (.bool false) (by kernel_rfl) (by kernel_rfl) ?_
            refine wpList_nil ?_
            refine x_then ?_
            refine wp_cond_false (by kernel_rfl) ?_
            refine wp_skip ?_
            refine x_inb ?_
            refine x_then ?_
            refine wp_region_lit ?_
            refine ql (.int .i64 i) (by kernel_rfl) (by kernel_rfl) ?_
            refine ql (.int .i64 (i + 1)) (by kernel_rfl) (R_int (by kernel_rfl) (w64 (by omega))) ?_
            refine ql (.int .i64 (i + 1)) (by kernel_rfl) (by kernel_rfl) ?_
            refine wpList_nil ?_
            refine x_then ?_
            exact ⟨acts.length - (i + 1).toNat, by omega, (fun k_ : Nat => List.getD ((.slice (some ad9) acts.length c) :: undef :: ((J5 2)) :: (.pointer (some ⟨g3, 0, none⟩)) :: (.slice Aw xs.length cw) :: (.int .i64 (i + 1)) :: (.slice Aw xs.length cw) :: (.int .i64 0) :: (.bool false) :: (.int .i64 0) :: (.bool false) :: ((J5 11)) :: ((J5 12)) :: (.slice Aw xs.length cw) :: (.int .i64 0) :: (.bool false) :: (.int .i64 0) :: (.bool false) :: (.slice (some ad9) acts.length c) :: (.int .i64 (acts.length : Int)) :: (.bool false) :: undef :: (.int .i64 i) :: (.slice (some ad9) acts.length c) :: (.int .i64 (acts.length : Int)) :: (.bool true) :: (.int .i64 i) :: (.int .i64 (i + 1)) :: (.slice (some ad9) acts.length c) :: (.int .i64 i) :: (.pointer (some (ad9.add (i.toNat * 2)))) :: (.pointer (some (ad9.add (i.toNat * 2)))) :: (.int .i64 ((gx acts i).1)) :: (.bool false) :: (.bool false) :: ((J5 35)) :: ((J5 36)) :: ((J5 37)) :: ((J5 38)) :: ((J5 39)) :: ((J5 40)) :: ((J5 41)) :: ((J5 42)) :: ((J5 43)) :: ((J5 44)) :: ((J5 45)) :: ((J5 46)) :: ((J5 47)) :: ((J5 48)) :: ((J5 49)) :: ((J5 50)) :: ((J5 51)) :: (.bool true) :: (.bool true) :: (.tuple #[.slice Aw xs.length cw, .int .i64 0, .bool false]) :: (.slice Aw xs.length cw) :: (.tuple #[.slice Aw xs.length cw, .int .i64 0, .bool false]) :: (.slice Aw xs.length cw) :: (.int .i64 0) :: (.bool false) :: (.tuple #[.int .i64 0, .bool false]) :: (.tuple #[.int .i64 0, .bool false]) :: (.int .i64 0) :: (.bool false) :: (.slice Aw xs.length cw) :: (.int .i64 0) :: (.int .i64 0) :: (.bool false) :: (.bool false) :: (.bool false) :: (.bool false) :: (.bool false) :: (.bool false) :: ((J5 73)) :: ((J5 74)) :: ((J5 75)) :: ((J5 76)) :: ((J5 77)) :: ((J5 78)) :: ((J5 79)) :: ((J5 80)) :: ((J5 81)) :: ((J5 82)) :: ((J5 83)) :: ((J5 84)) :: ((J5 85)) :: ((J5 86)) :: ((J5 87)) :: ((J5 88)) :: ((J5 89)) :: ((J5 90)) :: ((J5 91)) :: ((J5 92)) :: ((J5 93)) :: ((J5 94)) :: (.tuple #[.slice Aw xs.length cw, .int .i64 0, .bool false]) :: (.slice Aw xs.length cw) :: (.tuple #[.slice Aw xs.length cw, .int .i64 0, .bool false]) :: (.slice Aw xs.length cw) :: (.int .i64 0) :: (.bool false) :: (.tuple #[.int .i64 0, .bool false]) :: (.tuple #[.int .i64 0, .bool false]) :: (.int .i64 0) :: (.bool false) :: (.int .i64 (xs.length : Int)) :: (.slice Aw xs.length cw) :: (.int .i64 (xs.length : Int)) :: (.bool false) :: (.bool false) :: (.int .i64 0) :: (.int .i64 0) :: (.bool false) :: (.bool false) :: (.bool false) :: (.bool false) :: (.bool false) :: (.bool false) :: (.bool false) :: undef :: []) k_ undef), i + 1, As, cs_, xs, Aw, cw, congrArg Fr (by kernel_rfl), rfl, by omega, by omega, by (try simp only [List.length_append, List.length_cons, List.length_nil, List.length_take] at *); omega, by (try simp only [List.length_append, List.length_cons, List.length_nil, List.length_take] at *); omega, HS⟩
          · skip
            obtain ⟨q, hq⟩ : ∃ z_ : List Int, z_ = xs.take (xs.length - 1) := ⟨_, rfl⟩
            have hql : q.length = xs.length - 1 := by rw [hq, List.length_take]; omega
            refine (last_some _ cw xs _ (HS.get (i := 2) rfl) (by omega) (by (try simp only [List.length_append, List.length_cons, List.length_nil, List.length_take] at *); omega) (by (try simp only [List.length_append, List.length_cons, List.length_nil, List.length_take] at *); omega) q hq).mono ?_
            rintro e W34 ⟨rfl, H_⟩
            refine ⟨_, rfl, ?_⟩
            replace HS : St W (owns []) W34 [blk g3 [.slice As xs.length cs_] 88, row As xs.length cs_ (ci .i64 xs) 3 1, rde Aw (ci .i64 xs)] := HS.join (F := []) (G := []) H_
            clear H_
            replace HS : St W (owns []) W34 [blk g3 [.slice As xs.length cs_] 88, row As xs.length cs_ (ci .i64 xs) 3 1, rde Aw (ci .i64 q)] := (HS.rde_sub (i := 2) rfl (fun h_ => rd_takeC (m := xs.length - 1) h_) (fun ad h_ => ⟨ad, h_, rfl⟩)).cast_ (by rw [hq, ← ci_take']; rfl)
            refine ql (.tuple #[.slice Aw q.length cw, .int .i64 (rdI xs ((xs.length : Int) - 1)), .bool true]) (by kernel_rfl) (by kernel_rfl) ?_
            refine ql (.slice Aw q.length cw) (by kernel_rfl) (by kernel_rfl) ?_
            refine ql (.int .i64 (rdI xs ((xs.length : Int) - 1))) (by kernel_rfl) (by kernel_rfl) ?_
            refine ql (.bool true) (by kernel_rfl) (by kernel_rfl) ?_
            refine ql (.slice Aw q.length cw) (by kernel_rfl) (by kernel_rfl) ?_
            refine ql (.int .i64 (rdI xs ((xs.length : Int) - 1))) (by kernel_rfl) (by kernel_rfl) ?_
            refine ql (.bool true) (by kernel_rfl) (by kernel_rfl) ?_
            refine wpList_nil ?_
            refine x_then ?_
            refine wp_seq ?_
            refine wp_region_lit ?_
            refine qc (f := 58) (args := #[.pointer (some ⟨g3, 0, none⟩)]) (by kernel_rfl) (R_call #[.pointer (some ⟨g3, 0, none⟩)] Try.func58 (by kernel_rfl) (by kernel_rfl) (by kernel_rfl)) ?_
            refine (pop_some g3 _ cs_ xs _ _ (St.focus (F := [blk g3 [.slice As xs.length cs_] 88, row As xs.length cs_ (ci .i64 xs) 3 1]) HS) (by omega) (by omega) (St.rcap HS (i := 1) rfl).1 q hq).mono ?_
            rintro e W35 ⟨rfl, H_⟩
            refine ⟨_, rfl, ?_⟩
            replace HS : St W (owns []) W35 [blk g3 [.slice As q.length cs_] 88, row As q.length cs_ (ci .i64 q) 3 1, rde Aw (ci .i64 q)] := HS.join (F := [blk g3 [.slice As xs.length cs_] 88, row As xs.length cs_ (ci .i64 xs) 3 1]) (G := [blk g3 [.slice As q.length cs_] 88, row As q.length cs_ (ci .i64 q) 3 1]) H_
            clear H_
            refine ql (.tuple #[.int .i64 (rdI xs ((xs.length : Int) - 1)), .bool true]) (by kernel_rfl) (by kernel_rfl) ?_
            refine ql (.int .i64 (rdI xs ((xs.length : Int) - 1))) (by kernel_rfl) (by kernel_rfl) ?_
            refine ql (.bool true) (by kernel_rfl) (by kernel_rfl) ?_
            refine ql (.int .i64 (rdI xs ((xs.length : Int) - 1))) (by kernel_rfl) (by kernel_rfl) ?_
            refine ql (.bool true) (by kernel_rfl) (by kernel_rfl) ?_
            refine wpList_nil ?_
            refine x_then ?_
            refine wp_seq ?_
            refine wp_region_lit ?_
            refine ql (.slice Aw q.length cw) (by kernel_rfl) (by kernel_rfl) ?_
            refine ql (.slice Aw q.length cw) (by kernel_rfl) (by kernel_rfl) ?_
            refine wpList_nil ?_
            refine x_then ?_
            refine wp_seq ?_
            refine wp_region_lit ?_
            refine ql (.int .i64 (rdI xs ((xs.length : Int) - 1))) (by kernel_rfl) (by kernel_rfl) ?_
            refine ql (.int .i64 (rdI xs ((xs.length : Int) - 1))) (by kernel_rfl) (by kernel_rfl) ?_
            refine ql (.bool false) (by kernel_rfl) (R_beq (b := (rdI xs ((xs.length : Int) - 1) != rdI xs ((xs.length : Int) - 1))) (by kernel_rfl) (bne_f (by omega))) ?_
            refine ql (.bool false) (by kernel_rfl) (by kernel_rfl) ?_
            refine ql (.bool true) (by kernel_rfl) (by kernel_rfl) ?_
            refine ql (.bool true) (by kernel_rfl) (by kernel_rfl) ?_
            refine ql (.bool false) (by kernel_rfl) (by kernel_rfl) ?_
            refine ql (.bool false) (by kernel_rfl) (by kernel_rfl) ?_
            refine wpList_nil ?_
            refine x_then ?_
            refine wp_cond_false (by kernel_rfl) ?_
            refine wp_skip ?_
            refine x_inb ?_
            refine x_then ?_
            refine wp_seq ?_
            have hx9 : q.length ≤ 200 := by (try simp only [List.length_append, List.length_cons, List.length_nil, List.length_take] at *); omega
            refine wp_region_lit ?_
            refine ql (.slice Aw q.length cw) (by kernel_rfl) (by kernel_rfl) ?_
            refine qc (f := 57) (args := #[.slice Aw q.length cw]) (by kernel_rfl) (R_call #[.slice Aw q.length cw] Try.func57 (by kernel_rfl) (by kernel_rfl) (by kernel_rfl)) ?_
            by_cases hn36 : q.length = 0
            · skip
              refine (last_nil _ cw q _ (HS.get (i := 2) rfl) (by omega) (by omega) (by (try simp only [List.length_append, List.length_cons, List.length_nil, List.length_take] at *); omega)).mono ?_
              rintro e W37 ⟨rfl, H_⟩
              refine ⟨_, rfl, ?_⟩
              replace HS : St W (owns []) W37 [blk g3 [.slice As q.length cs_] 88, row As q.length cs_ (ci .i64 q) 3 1, rde Aw (ci .i64 q)] := HS.join (F := []) (G := []) H_
              clear H_
              refine ql (.tuple #[.slice Aw q.length cw, .int .i64 0, .bool false]) (by kernel_rfl) (by kernel_rfl) ?_
              refine ql (.slice Aw q.length cw) (by kernel_rfl) (by kernel_rfl) ?_
              refine ql (.int .i64 0) (by kernel_rfl) (by kernel_rfl) ?_
              refine ql (.bool false) (by kernel_rfl) (by kernel_rfl) ?_
              refine ql (.slice Aw q.length cw) (by kernel_rfl) (by kernel_rfl) ?_
              refine ql (.int .i64 0) (by kernel_rfl) (by kernel_rfl) ?_
              refine ql (.bool false) (by kernel_rfl) (by kernel_rfl) ?_
              refine wpList_nil ?_
              refine x_then ?_
              refine wp_seq ?_
              refine wp_region_lit ?_
              refine qc (f := 62) (args := #[.pointer (some ⟨g3, 0, none⟩)]) (by kernel_rfl) (R_call #[.pointer (some ⟨g3, 0, none⟩)] Try.func62 (by kernel_rfl) (by kernel_rfl) (by kernel_rfl)) ?_
              refine (top_nil _ _ _ q _ (HS.cell (i := 0) (j := 0) rfl rfl) (Rd.row HS (i := 1) rfl) (by omega) (by omega)).mono ?_
              rintro e W38 ⟨rfl, H_⟩
              refine ⟨_, rfl, ?_⟩
              replace HS : St W (owns []) W38 [blk g3 [.slice As q.length cs_] 88, row As q.length cs_ (ci .i64 q) 3 1, rde Aw (ci .i64 q)] := HS.join (F := []) (G := []) H_
              clear H_
              refine ql (.tuple #[.int .i64 0, .bool false]) (by kernel_rfl) (by kernel_rfl) ?_
              refine ql (.int .i64 0) (by kernel_rfl) (by kernel_rfl) ?_
              refine ql (.bool false) (by kernel_rfl) (by kernel_rfl) ?_
              refine ql (.int .i64 0) (by kernel_rfl) (by kernel_rfl) ?_
              refine ql (.bool false) (by kernel_rfl) (by kernel_rfl) ?_
              refine wpList_nil ?_
              refine x_then ?_
              refine wp_seq ?_
              refine wp_region_lit ?_
              refine qc (f := 63) (args := #[.pointer (some ⟨g3, 0, none⟩)]) (by kernel_rfl) (R_call #[.pointer (some ⟨g3, 0, none⟩)] Try.func63 (by kernel_rfl) (by kernel_rfl) (by kernel_rfl)) ?_
              refine (slen _ _ _ q _ (HS.cell (i := 0) (j := 0) rfl rfl)).mono ?_
              rintro e W39 ⟨rfl, H_⟩
              refine ⟨_, rfl, ?_⟩
              replace HS : St W (owns []) W39 [blk g3 [.slice As q.length cs_] 88, row As q.length cs_ (ci .i64 q) 3 1, rde Aw (ci .i64 q)] := HS.join (F := []) (G := []) H_
              clear H_
              refine ql (.slice Aw q.length cw) (by kernel_rfl) (by kernel_rfl) ?_
              refine ql (.int .i64 (q.length : Int)) (by kernel_rfl) (by kernel_rfl) ?_
              refine ql (.bool false) (by kernel_rfl) (R_beq (b := ((q.length : Int) != (q.length : Int))) (by kernel_rfl) (bne_f (by omega))) ?_
              refine ql (.bool false) (by kernel_rfl) (by kernel_rfl) ?_
              refine ql (.int .i64 0) (by kernel_rfl) (by kernel_rfl) ?_
              refine ql (.int .i64 0) (by kernel_rfl) (by kernel_rfl) ?_
              refine ql (.bool false) (by kernel_rfl) (R_beq (b := ((0 : Int) != 0)) (by kernel_rfl) (by decide)) ?_
              refine ql (.bool false) (by kernel_rfl) (by kernel_rfl) ?_
              refine ql (.bool false) (by kernel_rfl) (by kernel_rfl) ?_
              refine ql (.bool false) (by kernel_rfl) (by kernel_rfl) ?_
              refine ql (.bool false) (by kernel_rfl) (by kernel_rfl) ?_
              refine ql (.bool false) (by kernel_rfl) (by kernel_rfl) ?_
              refine ql (.bool false) (by kernel_rfl) (by kernel_rfl) ?_
              refine wpList_nil ?_
              refine x_then ?_
              refine wp_cond_false (by kernel_rfl) ?_
              refine wp_skip ?_
              refine x_inb ?_
              refine x_then ?_
              refine wp_region_lit ?_
              refine ql (.int .i64 i) (by kernel_rfl) (by kernel_rfl) ?_
              refine ql (.int .i64 (i + 1)) (by kernel_rfl) (R_int (by kernel_rfl) (w64 (by omega))) ?_
              refine ql (.int .i64 (i + 1)) (by kernel_rfl) (by kernel_rfl) ?_
              refine wpList_nil ?_
              refine x_then ?_
              exact ⟨acts.length - (i + 1).toNat, by omega, (fun k_ : Nat => List.getD ((.slice (some ad9) acts.length c) :: undef :: ((J5 2)) :: (.pointer (some ⟨g3, 0, none⟩)) :: (.slice Aw q.length cw) :: (.int .i64 (i + 1)) :: (.slice Aw q.length cw) :: (.int .i64 (rdI xs ((xs.length : Int) - 1))) :: (.bool true) :: (.int .i64 (rdI xs ((xs.length : Int) - 1))) :: (.bool true) :: ((J5 11)) :: ((J5 12)) :: (.slice Aw q.length cw) :: (.int .i64 0) :: (.bool false) :: (.int .i64 0) :: (.bool false) :: (.slice (some ad9) acts.length c) :: (.int .i64 (acts.length : Int)) :: (.bool false) :: undef :: (.int .i64 i) :: (.slice (some ad9) acts.length c) :: (.int .i64 (acts.length : Int)) :: (.bool true) :: (.int .i64 i) :: (.int .i64 (i + 1)) :: (.slice (some ad9) acts.length c) :: (.int .i64 i) :: (.pointer (some (ad9.add (i.toNat * 2)))) :: (.pointer (some (ad9.add (i.toNat * 2)))) :: (.int .i64 ((gx acts i).1)) :: (.bool false) :: (.bool false) :: ((J5 35)) :: ((J5 36)) :: ((J5 37)) :: ((J5 38)) :: ((J5 39)) :: ((J5 40)) :: ((J5 41)) :: ((J5 42)) :: ((J5 43)) :: ((J5 44)) :: ((J5 45)) :: ((J5 46)) :: ((J5 47)) :: ((J5 48)) :: ((J5 49)) :: ((J5 50)) :: ((J5 51)) :: (.bool true) :: (.bool true) :: (.tuple #[.slice Aw q.length cw, .int .i64 (rdI xs ((xs.length : Int) - 1)), .bool true]) :: (.slice Aw xs.length cw) :: (.tuple #[.slice Aw q.length cw, .int .i64 (rdI xs ((xs.length : Int) - 1)), .bool true]) :: (.slice Aw q.length cw) :: (.int .i64 (rdI xs ((xs.length : Int) - 1))) :: (.bool true) :: (.tuple #[.int .i64 (rdI xs ((xs.length : Int) - 1)), .bool true]) :: (.tuple #[.int .i64 (rdI xs ((xs.length : Int) - 1)), .bool true]) :: (.int .i64 (rdI xs ((xs.length : Int) - 1))) :: (.bool true) :: (.slice Aw q.length cw) :: (.int .i64 (rdI xs ((xs.length : Int) - 1))) :: (.int .i64 (rdI xs ((xs.length : Int) - 1))) :: (.bool false) :: (.bool false) :: (.bool true) :: (.bool true) :: (.bool false) :: (.bool false) :: ((J5 73)) :: ((J5 74)) :: ((J5 75)) :: ((J5 76)) :: ((J5 77)) :: ((J5 78)) :: ((J5 79)) :: ((J5 80)) :: ((J5 81)) :: ((J5 82)) :: ((J5 83)) :: ((J5 84)) :: ((J5 85)) :: ((J5 86)) :: ((J5 87)) :: ((J5 88)) :: ((J5 89)) :: ((J5 90)) :: ((J5 91)) :: ((J5 92)) :: ((J5 93)) :: ((J5 94)) :: (.tuple #[.slice Aw q.length cw, .int .i64 0, .bool false]) :: (.slice Aw q.length cw) :: (.tuple #[.slice Aw q.length cw, .int .i64 0, .bool false]) :: (.slice Aw q.length cw) :: (.int .i64 0) :: (.bool false) :: (.tuple #[.int .i64 0, .bool false]) :: (.tuple #[.int .i64 0, .bool false]) :: (.int .i64 0) :: (.bool false) :: (.int .i64 (q.length : Int)) :: (.slice Aw q.length cw) :: (.int .i64 (q.length : Int)) :: (.bool false) :: (.bool false) :: (.int .i64 0) :: (.int .i64 0) :: (.bool false) :: (.bool false) :: (.bool false) :: (.bool false) :: (.bool false) :: (.bool false) :: (.bool false) :: undef :: []) k_ undef), i + 1, As, cs_, q, Aw, cw, congrArg Fr (by kernel_rfl), rfl, by omega, by omega, by (try simp only [List.length_append, List.length_cons, List.length_nil, List.length_take] at *); omega, by (try simp only [List.length_append, List.length_cons, List.length_nil, List.length_take] at *); omega, HS⟩
            · skip
              obtain ⟨q9, hq9⟩ : ∃ z_ : List Int, z_ = q.take (q.length - 1) := ⟨_, rfl⟩
              refine (last_some _ cw q _ (HS.get (i := 2) rfl) (by omega) (by (try simp only [List.length_append, List.length_cons, List.length_nil, List.length_take] at *); omega) (by (try simp only [List.length_append, List.length_cons, List.length_nil, List.length_take] at *); omega) q9 hq9).mono ?_
              rintro e W40 ⟨rfl, H_⟩
              refine ⟨_, rfl, ?_⟩
              replace HS : St W (owns []) W40 [blk g3 [.slice As q.length cs_] 88, row As q.length cs_ (ci .i64 q) 3 1, rde Aw (ci .i64 q)] := HS.join (F := []) (G := []) H_
              clear H_
              refine ql (.tuple #[.slice Aw q9.length cw, .int .i64 (rdI q ((q.length : Int) - 1)), .bool true]) (by kernel_rfl) (by kernel_rfl) ?_
              refine ql (.slice Aw q9.length cw) (by kernel_rfl) (by kernel_rfl) ?_
              refine ql (.int .i64 (rdI q ((q.length : Int) - 1))) (by kernel_rfl) (by kernel_rfl) ?_
              refine ql (.bool true) (by kernel_rfl) (by kernel_rfl) ?_
              refine ql (.slice Aw q9.length cw) (by kernel_rfl) (by kernel_rfl) ?_
              refine ql (.int .i64 (rdI q ((q.length : Int) - 1))) (by kernel_rfl) (by kernel_rfl) ?_
              refine ql (.bool true) (by kernel_rfl) (by kernel_rfl) ?_
              refine wpList_nil ?_
              refine x_then ?_
              refine wp_seq ?_
              refine wp_region_lit ?_
              refine qc (f := 62) (args := #[.pointer (some ⟨g3, 0, none⟩)]) (by kernel_rfl) (R_call #[.pointer (some ⟨g3, 0, none⟩)] Try.func62 (by kernel_rfl) (by kernel_rfl) (by kernel_rfl)) ?_
              refine (top_some _ _ _ q _ (HS.cell (i := 0) (j := 0) rfl rfl) (Rd.row HS (i := 1) rfl) (by omega) (by (try simp only [List.length_append, List.length_cons, List.length_nil, List.length_take] at *); omega)).mono ?_
              rintro e W41 ⟨rfl, H_⟩
              refine ⟨_, rfl, ?_⟩
              replace HS : St W (owns []) W41 [blk g3 [.slice As q.length cs_] 88, row As q.length cs_ (ci .i64 q) 3 1, rde Aw (ci .i64 q)] := HS.join (F := []) (G := []) H_
              clear H_
              refine ql (.tuple #[.int .i64 (rdI q ((q.length : Int) - 1)), .bool true]) (by kernel_rfl) (by kernel_rfl) ?_
              refine ql (.int .i64 (rdI q ((q.length : Int) - 1))) (by kernel_rfl) (by kernel_rfl) ?_
              refine ql (.bool true) (by kernel_rfl) (by kernel_rfl) ?_
              refine ql (.int .i64 (rdI q ((q.length : Int) - 1))) (by kernel_rfl) (by kernel_rfl) ?_
              refine ql (.bool true) (by kernel_rfl) (by kernel_rfl) ?_
              refine wpList_nil ?_
              refine x_then ?_
              refine wp_seq ?_
              refine wp_region_lit ?_
              refine qc (f := 63) (args := #[.pointer (some ⟨g3, 0, none⟩)]) (by kernel_rfl) (R_call #[.pointer (some ⟨g3, 0, none⟩)] Try.func63 (by kernel_rfl) (by kernel_rfl) (by kernel_rfl)) ?_
              refine (slen _ _ _ q _ (HS.cell (i := 0) (j := 0) rfl rfl)).mono ?_
              rintro e W42 ⟨rfl, H_⟩
              refine ⟨_, rfl, ?_⟩
              replace HS : St W (owns []) W42 [blk g3 [.slice As q.length cs_] 88, row As q.length cs_ (ci .i64 q) 3 1, rde Aw (ci .i64 q)] := HS.join (F := []) (G := []) H_
              clear H_
              refine ql (.slice Aw q.length cw) (by kernel_rfl) (by kernel_rfl) ?_
              refine ql (.int .i64 (q.length : Int)) (by kernel_rfl) (by kernel_rfl) ?_
              refine ql (.bool false) (by kernel_rfl) (R_beq (b := ((q.length : Int) != (q.length : Int))) (by kernel_rfl) (bne_f (by omega))) ?_
              refine ql (.bool false) (by kernel_rfl) (by kernel_rfl) ?_
              refine ql (.int .i64 (rdI q ((q.length : Int) - 1))) (by kernel_rfl) (by kernel_rfl) ?_
              refine ql (.int .i64 (rdI q ((q.length : Int) - 1))) (by kernel_rfl) (by kernel_rfl) ?_
              refine ql (.bool false) (by kernel_rfl) (R_beq (b := (rdI q ((q.length : Int) - 1) != rdI q ((q.length : Int) - 1))) (by kernel_rfl) (bne_f (by omega))) ?_
              refine ql (.bool false) (by kernel_rfl) (by kernel_rfl) ?_
              refine ql (.bool false) (by kernel_rfl) (by kernel_rfl) ?_
              refine ql (.bool true) (by kernel_rfl) (by kernel_rfl) ?_
              refine ql (.bool true) (by kernel_rfl) (by kernel_rfl) ?_
              refine ql (.bool false) (by kernel_rfl) (by kernel_rfl) ?_
              refine ql (.bool false) (by kernel_rfl) (by kernel_rfl) ?_
              refine wpList_nil ?_
              refine x_then ?_
              refine wp_cond_false (by kernel_rfl) ?_
              refine wp_skip ?_
              refine x_inb ?_
              refine x_then ?_
              refine wp_region_lit ?_
              refine ql (.int .i64 i) (by kernel_rfl) (by kernel_rfl) ?_
              refine ql (.int .i64 (i + 1)) (by kernel_rfl) (R_int (by kernel_rfl) (w64 (by omega))) ?_
              refine ql (.int .i64 (i + 1)) (by kernel_rfl) (by kernel_rfl) ?_
              refine wpList_nil ?_
              refine x_then ?_
              exact ⟨acts.length - (i + 1).toNat, by omega, (fun k_ : Nat => List.getD ((.slice (some ad9) acts.length c) :: undef :: ((J5 2)) :: (.pointer (some ⟨g3, 0, none⟩)) :: (.slice Aw q.length cw) :: (.int .i64 (i + 1)) :: (.slice Aw q.length cw) :: (.int .i64 (rdI xs ((xs.length : Int) - 1))) :: (.bool true) :: (.int .i64 (rdI xs ((xs.length : Int) - 1))) :: (.bool true) :: ((J5 11)) :: ((J5 12)) :: (.slice Aw q9.length cw) :: (.int .i64 (rdI q ((q.length : Int) - 1))) :: (.bool true) :: (.int .i64 (rdI q ((q.length : Int) - 1))) :: (.bool true) :: (.slice (some ad9) acts.length c) :: (.int .i64 (acts.length : Int)) :: (.bool false) :: undef :: (.int .i64 i) :: (.slice (some ad9) acts.length c) :: (.int .i64 (acts.length : Int)) :: (.bool true) :: (.int .i64 i) :: (.int .i64 (i + 1)) :: (.slice (some ad9) acts.length c) :: (.int .i64 i) :: (.pointer (some (ad9.add (i.toNat * 2)))) :: (.pointer (some (ad9.add (i.toNat * 2)))) :: (.int .i64 ((gx acts i).1)) :: (.bool false) :: (.bool false) :: ((J5 35)) :: ((J5 36)) :: ((J5 37)) :: ((J5 38)) :: ((J5 39)) :: ((J5 40)) :: ((J5 41)) :: ((J5 42)) :: ((J5 43)) :: ((J5 44)) :: ((J5 45)) :: ((J5 46)) :: ((J5 47)) :: ((J5 48)) :: ((J5 49)) :: ((J5 50)) :: ((J5 51)) :: (.bool true) :: (.bool true) :: (.tuple #[.slice Aw q.length cw, .int .i64 (rdI xs ((xs.length : Int) - 1)), .bool true]) :: (.slice Aw xs.length cw) :: (.tuple #[.slice Aw q.length cw, .int .i64 (rdI xs ((xs.length : Int) - 1)), .bool true]) :: (.slice Aw q.length cw) :: (.int .i64 (rdI xs ((xs.length : Int) - 1))) :: (.bool true) :: (.tuple #[.int .i64 (rdI xs ((xs.length : Int) - 1)), .bool true]) :: (.tuple #[.int .i64 (rdI xs ((xs.length : Int) - 1)), .bool true]) :: (.int .i64 (rdI xs ((xs.length : Int) - 1))) :: (.bool true) :: (.slice Aw q.length cw) :: (.int .i64 (rdI xs ((xs.length : Int) - 1))) :: (.int .i64 (rdI xs ((xs.length : Int) - 1))) :: (.bool false) :: (.bool false) :: (.bool true) :: (.bool true) :: (.bool false) :: (.bool false) :: ((J5 73)) :: ((J5 74)) :: ((J5 75)) :: ((J5 76)) :: ((J5 77)) :: ((J5 78)) :: ((J5 79)) :: ((J5 80)) :: ((J5 81)) :: ((J5 82)) :: ((J5 83)) :: ((J5 84)) :: ((J5 85)) :: ((J5 86)) :: ((J5 87)) :: ((J5 88)) :: ((J5 89)) :: ((J5 90)) :: ((J5 91)) :: ((J5 92)) :: ((J5 93)) :: ((J5 94)) :: (.tuple #[.slice Aw q9.length cw, .int .i64 (rdI q ((q.length : Int) - 1)), .bool true]) :: (.slice Aw q.length cw) :: (.tuple #[.slice Aw q9.length cw, .int .i64 (rdI q ((q.length : Int) - 1)), .bool true]) :: (.slice Aw q9.length cw) :: (.int .i64 (rdI q ((q.length : Int) - 1))) :: (.bool true) :: (.tuple #[.int .i64 (rdI q ((q.length : Int) - 1)), .bool true]) :: (.tuple #[.int .i64 (rdI q ((q.length : Int) - 1)), .bool true]) :: (.int .i64 (rdI q ((q.length : Int) - 1))) :: (.bool true) :: (.int .i64 (q.length : Int)) :: (.slice Aw q.length cw) :: (.int .i64 (q.length : Int)) :: (.bool false) :: (.bool false) :: (.int .i64 (rdI q ((q.length : Int) - 1))) :: (.int .i64 (rdI q ((q.length : Int) - 1))) :: (.bool false) :: (.bool false) :: (.bool false) :: (.bool true) :: (.bool true) :: (.bool false) :: (.bool false) :: undef :: []) k_ undef), i + 1, As, cs_, q, Aw, cw, congrArg Fr (by kernel_rfl), rfl, by omega, by omega, by (try simp only [List.length_append, List.length_cons, List.length_nil, List.length_take] at *); omega, by (try simp only [List.length_append, List.length_cons, List.length_nil, List.length_take] at *); omega, HS⟩
        · skip
          refine ql (.bool false) (by kernel_rfl) (R_beq (b := ((gx acts i).1 == (1 : Int))) (by kernel_rfl) (beq_f (hc27))) ?_
          refine ql (.bool false) (by kernel_rfl) (by kernel_rfl) ?_
          refine wpList_nil ?_
          refine x_then ?_
          refine wp_cond_false (by kernel_rfl) ?_
          refine wp_seq ?_
          refine wp_region_lit ?_
          by_cases hc43 : ((gx acts i).1) = (2 : Int)
          · skip
            refine ql (.bool true) (by kernel_rfl) (R_beq (b := ((gx acts i).1 == (2 : Int))) (by kernel_rfl) (beq_t (hc43))) ?_
            refine ql (.bool true) (by kernel_rfl) (by kernel_rfl) ?_
            refine wpList_nil ?_
            refine x_then ?_
            refine wp_cond_true (by kernel_rfl) ?_
            refine wp_seq ?_
            refine wp_region_lit ?_
            refine ql (.slice Aw xs.length cw) (by kernel_rfl) (by kernel_rfl) ?_
            refine ql (.slice (some ad9) acts.length c) (by kernel_rfl) (by kernel_rfl) ?_
            refine ql (.int .i64 i) (by kernel_rfl) (by kernel_rfl) ?_
            refine ql (.pointer (some (ad9.add (i.toNat * 2)))) (by kernel_rfl) (R_indexA (k := .i64) (p := ad9) (n := acts.length) (c := c) (i := i) (by kernel_rfl) (by kernel_rfl) Try.underlying52 (by kernel_rfl) (by omega) (by omega)) ?_
            refine ql (.pointer (some ((ad9.add (i.toNat * 2)).add 1))) (by kernel_rfl) (by kernel_rfl) ?_
            refine ql (.int .i64 ((gx acts i).2)) (by kernel_rfl) (R_load (p := (ad9.add (i.toNat * 2)).add 1) (by kernel_rfl) (by kernel_rfl) (by kernel_rfl) (HS.old0 (Rd.elem1 (k := 1) (f := actC) (fun _ => rfl) hr (gx_eq (by omega) (by omega)) rfl))) ?_
            refine qc (f := 59) (args := #[.slice Aw xs.length cw, .int .i64 ((gx acts i).2)]) (by kernel_rfl) (R_call #[.slice Aw xs.length cw, .int .i64 ((gx acts i).2)] Try.func59 (by kernel_rfl) (by kernel_rfl) (by kernel_rfl)) ?_
            refine (rcut _ cw xs ((gx acts i).2) _ (HS.get (i := 2) rfl) (by omega) (by omega)).mono ?_
            rintro e W46 ⟨A44, c45, rfl, H_⟩
            refine ⟨_, rfl, ?_⟩
            replace HS : St W (owns []) W46 [row A44 ((xs.drop (min xs.length ((gx acts i).2).toNat)).reverse.length) c45 (ci .i64 ((xs.drop (min xs.length ((gx acts i).2).toNat)).reverse)) 3 1, blk g3 [.slice As xs.length cs_] 88, row As xs.length cs_ (ci .i64 xs) 3 1, rde Aw (ci .i64 xs)] := HS.join (F := []) (G := [row A44 ((xs.drop (min xs.length ((gx acts i).2).toNat)).reverse.length) c45 (ci .i64 ((xs.drop (min xs.length ((gx acts i).2).toNat)).reverse)) 3 1]) H_
            clear H_
            replace HS : St W (owns []) W46 [row A44 ((xs.drop (min xs.length ((gx acts i).2).toNat)).reverse.length) c45 (ci .i64 ((xs.drop (min xs.length ((gx acts i).2).toNat)).reverse)) 3 1, blk g3 [.slice As xs.length cs_] 88, row As xs.length cs_ (ci .i64 xs) 3 1, rde Aw (ci .i64 (xs.take (min xs.length ((gx acts i).2).toNat)))] := (HS.rde_sub (i := 3) rfl (fun h_ => rd_takeC (m := min xs.length ((gx acts i).2).toNat) h_) (fun ad h_ => ⟨ad, h_, rfl⟩)).cast_ (by rw [← ci_take']; rfl)
            refine ql (.tuple #[.slice Aw ((xs.take (min xs.length ((gx acts i).2).toNat)).length) cw, .slice A44 ((xs.drop (min xs.length ((gx acts i).2).toNat)).reverse.length) c45]) (by kernel_rfl) (by kernel_rfl) ?_
            refine ql (.slice Aw ((xs.take (min xs.length ((gx acts i).2).toNat)).length) cw) (by kernel_rfl) (by kernel_rfl) ?_
            refine ql (.slice A44 ((xs.drop (min xs.length ((gx acts i).2).toNat)).reverse.length) c45) (by kernel_rfl) (by kernel_rfl) ?_
            refine ql (.slice Aw ((xs.take (min xs.length ((gx acts i).2).toNat)).length) cw) (by kernel_rfl) (by kernel_rfl) ?_
            refine ql (.slice A44 ((xs.drop (min xs.length ((gx acts i).2).toNat)).reverse.length) c45) (by kernel_rfl) (by kernel_rfl) ?_
            refine wpList_nil ?_
            refine x_then ?_
            refine wp_seq ?_
            refine wp_region_lit ?_
            refine ql (.slice Aw ((xs.take (min xs.length ((gx acts i).2).toNat)).length) cw) (by kernel_rfl) (by kernel_rfl) ?_
            refine ql (.slice Aw ((xs.take (min xs.length ((gx acts i).2).toNat)).length) cw) (by kernel_rfl) (by kernel_rfl) ?_
            refine wpList_nil ?_
            refine x_then ?_
            refine wp_seq ?_
            refine wp_region_lit ?_
            refine ql (.slice (some ad9) acts.length c) (by kernel_rfl) (by kernel_rfl) ?_
            refine ql (.int .i64 i) (by kernel_rfl) (by kernel_rfl) ?_
            refine ql (.pointer (some (ad9.add (i.toNat * 2)))) (by kernel_rfl) (R_indexA (k := .i64) (p := ad9) (n := acts.length) (c := c) (i := i) (by kernel_rfl) (by kernel_rfl) Try.underlying52 (by kernel_rfl) (by omega) (by omega)) ?_
            refine ql (.pointer (some ((ad9.add (i.toNat * 2)).add 1))) (by kernel_rfl) (by kernel_rfl) ?_
            refine ql (.int .i64 ((gx acts i).2)) (by kernel_rfl) (R_load (p := (ad9.add (i.toNat * 2)).add 1) (by kernel_rfl) (by kernel_rfl) (by kernel_rfl) (HS.old0 (Rd.elem1 (k := 1) (f := actC) (fun _ => rfl) hr (gx_eq (by omega) (by omega)) rfl))) ?_
            refine qc (f := 61) (args := #[.pointer (some ⟨g3, 0, none⟩), .int .i64 ((gx acts i).2)]) (by kernel_rfl) (R_call #[.pointer (some ⟨g3, 0, none⟩), .int .i64 ((gx acts i).2)] Try.func61 (by kernel_rfl) (by kernel_rfl) (by kernel_rfl)) ?_
            replace HS : St W (owns []) W46 [blk g3 [.slice As xs.length cs_] 88, row As xs.length cs_ (ci .i64 xs) 3 1, row A44 ((xs.drop (min xs.length ((gx acts i).2).toNat)).reverse.length) c45 (ci .i64 ((xs.drop (min xs.length ((gx acts i).2).toNat)).reverse)) 3 1, rde Aw (ci .i64 (xs.take (min xs.length ((gx acts i).2).toNat)))] := HS.perm (perm_ [1, 2, 0, 3] (by kernel_rfl) rfl)
            refine (scut g3 _ cs_ xs ((gx acts i).2) _ _ (St.focus (F := [blk g3 [.slice As xs.length cs_] 88, row As xs.length cs_ (ci .i64 xs) 3 1]) HS) (by omega)).mono ?_
            rintro e W49 ⟨A47, c48, rfl, H_⟩
            refine ⟨_, rfl, ?_⟩
            replace HS : St W (owns []) W49 [row A47 ((xs.drop (min xs.length ((gx acts i).2).toNat)).reverse.length) c48 (ci .i64 ((xs.drop (min xs.length ((gx acts i).2).toNat)).reverse)) 3 1, blk g3 [.slice As ((xs.take (min xs.length ((gx acts i).2).toNat)).length) cs_] 88, row As ((xs.take (min xs.length ((gx acts i).2).toNat)).length) cs_ (ci .i64 (xs.take (min xs.length ((gx acts i).2).toNat))) 3 1, row A44 ((xs.drop (min xs.length ((gx acts i).2).toNat)).reverse.length) c45 (ci .i64 ((xs.drop (min xs.length ((gx acts i).2).toNat)).reverse)) 3 1, rde Aw (ci .i64 (xs.take (min xs.length ((gx acts i).2).toNat)))] := HS.join (F := [blk g3 [.slice As xs.length cs_] 88, row As xs.length cs_ (ci .i64 xs) 3 1]) (G := [row A47 ((xs.drop (min xs.length ((gx acts i).2).toNat)).reverse.length) c48 (ci .i64 ((xs.drop (min xs.length ((gx acts i).2).toNat)).reverse)) 3 1, blk g3 [.slice As ((xs.take (min xs.length ((gx acts i).2).toNat)).length) cs_] 88, row As ((xs.take (min xs.length ((gx acts i).2).toNat)).length) cs_ (ci .i64 (xs.take (min xs.length ((gx acts i).2).toNat))) 3 1]) H_
            clear H_
            refine ql (.slice A44 ((xs.drop (min xs.length ((gx acts i).2).toNat)).reverse.length) c45) (by kernel_rfl) (by kernel_rfl) ?_
            refine qc (f := 60) (args := #[.slice A47 ((xs.drop (min xs.length ((gx acts i).2).toNat)).reverse.length) c48, .slice A44 ((xs.drop (min xs.length ((gx acts i).2).toNat)).reverse.length) c45]) (by kernel_rfl) (R_call #[.slice A47 ((xs.drop (min xs.length ((gx acts i).2).toNat)).reverse.length) c48, .slice A44 ((xs.drop (min xs.length ((gx acts i).2).toNat)).reverse.length) c45] Try.func60 (by kernel_rfl) (by kernel_rfl) (by kernel_rfl)) ?_
            refine (same_t _ _ _ _ ((xs.drop (min xs.length ((gx acts i).2).toNat)).reverse) _ (Rd.row HS (i := 0) rfl) (Rd.row HS (i := 3) rfl) (by rw [List.length_reverse, List.length_drop]; omega)).mono ?_
            rintro e W50 ⟨rfl, H_⟩
            refine ⟨_, rfl, ?_⟩
            replace HS : St W (owns []) W50 [row A47 ((xs.drop (min xs.length ((gx acts i).2).toNat)).reverse.length) c48 (ci .i64 ((xs.drop (min xs.length ((gx acts i).2).toNat)).reverse)) 3 1, blk g3 [.slice As ((xs.take (min xs.length ((gx acts i).2).toNat)).length) cs_] 88, row As ((xs.take (min xs.length ((gx acts i).2).toNat)).length) cs_ (ci .i64 (xs.take (min xs.length ((gx acts i).2).toNat))) 3 1, row A44 ((xs.drop (min xs.length ((gx acts i).2).toNat)).reverse.length) c45 (ci .i64 ((xs.drop (min xs.length ((gx acts i).2).toNat)).reverse)) 3 1, rde Aw (ci .i64 (xs.take (min xs.length ((gx acts i).2).toNat)))] := HS.join (F := []) (G := []) H_
            clear H_
            refine ql (.bool false) (by kernel_rfl) (by kernel_rfl) ?_
            refine wpList_nil ?_
            refine x_then ?_
            refine wp_cond_false (by kernel_rfl) ?_
            refine wp_skip ?_
            refine x_inb ?_
            refine x_then ?_
            refine wp_seq ?_
            have hx9 : (xs.take (min xs.length ((gx acts i).2).toNat)).length ≤ 200 := by (try simp only [List.length_append, List.length_cons, List.length_nil, List.length_take] at *); omega
            refine wp_region_lit ?_
            refine ql (.slice Aw ((xs.take (min xs.length ((gx acts i).2).toNat)).length) cw) (by kernel_rfl) (by kernel_rfl) ?_
            refine qc (f := 57) (args := #[.slice Aw ((xs.take (min xs.length ((gx acts i).2).toNat)).length) cw]) (by kernel_rfl) (R_call #[.slice Aw ((xs.take (min xs.length ((gx acts i).2).toNat)).length) cw] Try.func57 (by kernel_rfl) (by kernel_rfl) (by kernel_rfl)) ?_
            by_cases hn51 : (xs.take (min xs.length ((gx acts i).2).toNat)).length = 0
            · skip
              refine (last_nil _ cw (xs.take (min xs.length ((gx acts i).2).toNat)) _ (HS.get (i := 4) rfl) (by omega) (by omega) (by (try simp only [List.length_append, List.length_cons, List.length_nil, List.length_take] at *); omega)).mono ?_
              rintro e W52 ⟨rfl, H_⟩
              refine ⟨_, rfl, ?_⟩
              replace HS : St W (owns []) W52 [row A47 ((xs.drop (min xs.length ((gx acts i).2).toNat)).reverse.length) c48 (ci .i64 ((xs.drop (min xs.length ((gx acts i).2).toNat)).reverse)) 3 1, blk g3 [.slice As ((xs.take (min xs.length ((gx acts i).2).toNat)).length) cs_] 88, row As ((xs.take (min xs.length ((gx acts i).2).toNat)).length) cs_ (ci .i64 (xs.take (min xs.length ((gx acts i).2).toNat))) 3 1, row A44 ((xs.drop (min xs.length ((gx acts i).2).toNat)).reverse.length) c45 (ci .i64 ((xs.drop (min xs.length ((gx acts i).2).toNat)).reverse)) 3 1, rde Aw (ci .i64 (xs.take (min xs.length ((gx acts i).2).toNat)))] := HS.join (F := []) (G := []) H_
              clear H_
              refine ql (.tuple #[.slice Aw ((xs.take (min xs.length ((gx acts i).2).toNat)).length) cw, .int .i64 0, .bool false]) (by kernel_rfl) (by kernel_rfl) ?_
              refine ql (.slice Aw ((xs.take (min xs.length ((gx acts i).2).toNat)).length) cw) (by kernel_rfl) (by kernel_rfl) ?_
              refine ql (.int .i64 0) (by kernel_rfl) (by kernel_rfl) ?_
              refine ql (.bool false) (by kernel_rfl) (by kernel_rfl) ?_
              refine ql (.slice Aw ((xs.take (min xs.length ((gx acts i).2).toNat)).length) cw) (by kernel_rfl) (by kernel_rfl) ?_
              refine ql (.int .i64 0) (by kernel_rfl) (by kernel_rfl) ?_
              refine ql (.bool false) (by kernel_rfl) (by kernel_rfl) ?_
              refine wpList_nil ?_
              refine x_then ?_
              refine wp_seq ?_
              refine wp_region_lit ?_
              refine qc (f := 62) (args := #[.pointer (some ⟨g3, 0, none⟩)]) (by kernel_rfl) (R_call #[.pointer (some ⟨g3, 0, none⟩)] Try.func62 (by kernel_rfl) (by kernel_rfl) (by kernel_rfl)) ?_
              refine (top_nil _ _ _ (xs.take (min xs.length ((gx acts i).2).toNat)) _ (HS.cell (i := 1) (j := 0) rfl rfl) (Rd.row HS (i := 2) rfl) (by omega) (by omega)).mono ?_
              rintro e W53 ⟨rfl, H_⟩
              refine ⟨_, rfl, ?_⟩
              replace HS : St W (owns []) W53 [row A47 ((xs.drop (min xs.length ((gx acts i).2).toNat)).reverse.length) c48 (ci .i64 ((xs.drop (min xs.length ((gx acts i).2).toNat)).reverse)) 3 1, blk g3 [.slice As ((xs.take (min xs.length ((gx acts i).2).toNat)).length) cs_] 88, row As ((xs.take (min xs.length ((gx acts i).2).toNat)).length) cs_ (ci .i64 (xs.take (min xs.length ((gx acts i).2).toNat))) 3 1, row A44 ((xs.drop (min xs.length ((gx acts i).2).toNat)).reverse.length) c45 (ci .i64 ((xs.drop (min xs.length ((gx acts i).2).toNat)).reverse)) 3 1, rde Aw (ci .i64 (xs.take (min xs.length ((gx acts i).2).toNat)))] := HS.join (F := []) (G := []) H_
              clear H_
              refine ql (.tuple #[.int .i64 0, .bool false]) (by kernel_rfl) (by kernel_rfl) ?_
              refine ql (.int .i64 0) (by kernel_rfl) (by kernel_rfl) ?_
              refine ql (.bool false) (by kernel_rfl) (by kernel_rfl) ?_
              refine ql (.int .i64 0) (by kernel_rfl) (by kernel_rfl) ?_
              refine ql (.bool false) (by kernel_rfl) (by kernel_rfl) ?_
              refine wpList_nil ?_
              refine x_then ?_
              refine wp_seq ?_
              refine wp_region_lit ?_
              refine qc (f := 63) (args := #[.pointer (some ⟨g3, 0, none⟩)]) (by kernel_rfl) (R_call #[.pointer (some ⟨g3, 0, none⟩)] Try.func63 (by kernel_rfl) (by kernel_rfl) (by kernel_rfl)) ?_
              refine (slen _ _ _ (xs.take (min xs.length ((gx acts i).2).toNat)) _ (HS.cell (i := 1) (j := 0) rfl rfl)).mono ?_
              rintro e W54 ⟨rfl, H_⟩
              refine ⟨_, rfl, ?_⟩
              replace HS : St W (owns []) W54 [row A47 ((xs.drop (min xs.length ((gx acts i).2).toNat)).reverse.length) c48 (ci .i64 ((xs.drop (min xs.length ((gx acts i).2).toNat)).reverse)) 3 1, blk g3 [.slice As ((xs.take (min xs.length ((gx acts i).2).toNat)).length) cs_] 88, row As ((xs.take (min xs.length ((gx acts i).2).toNat)).length) cs_ (ci .i64 (xs.take (min xs.length ((gx acts i).2).toNat))) 3 1, row A44 ((xs.drop (min xs.length ((gx acts i).2).toNat)).reverse.length) c45 (ci .i64 ((xs.drop (min xs.length ((gx acts i).2).toNat)).reverse)) 3 1, rde Aw (ci .i64 (xs.take (min xs.length ((gx acts i).2).toNat)))] := HS.join (F := []) (G := []) H_
              clear H_
              refine ql (.slice Aw ((xs.take (min xs.length ((gx acts i).2).toNat)).length) cw) (by kernel_rfl) (by kernel_rfl) ?_
              refine ql (.int .i64 ((xs.take (min xs.length ((gx acts i).2).toNat)).length : Int)) (by kernel_rfl) (by kernel_rfl) ?_
              refine ql (.bool false) (by kernel_rfl) (R_beq (b := (((xs.take (min xs.length ((gx acts i).2).toNat)).length : Int) != ((xs.take (min xs.length ((gx acts i).2).toNat)).length : Int))) (by kernel_rfl) (bne_f (by omega))) ?_
              refine ql (.bool false) (by kernel_rfl) (by kernel_rfl) ?_
              refine ql (.int .i64 0) (by kernel_rfl) (by kernel_rfl) ?_
              refine ql (.int .i64 0) (by kernel_rfl) (by kernel_rfl) ?_
              refine ql (.bool false) (by kernel_rfl) (R_beq (b := ((0 : Int) != 0)) (by kernel_rfl) (by decide)) ?_
              refine ql (.bool false) (by kernel_rfl) (by kernel_rfl) ?_
              refine ql (.bool false) (by kernel_rfl) (by kernel_rfl) ?_
              refine ql (.bool false) (by kernel_rfl) (by kernel_rfl) ?_
              refine ql (.bool false) (by kernel_rfl) (by kernel_rfl) ?_
              refine ql (.bool false) (by kernel_rfl) (by kernel_rfl) ?_
              refine ql (.bool false) (by kernel_rfl) (by kernel_rfl) ?_
              refine wpList_nil ?_
              refine x_then ?_
              refine wp_cond_false (by kernel_rfl) ?_
              refine wp_skip ?_
              refine x_inb ?_
              refine x_then ?_
              refine wp_region_lit ?_
              refine ql (.int .i64 i) (by kernel_rfl) (by kernel_rfl) ?_
              refine ql (.int .i64 (i + 1)) (by kernel_rfl) (R_int (by kernel_rfl) (w64 (by omega))) ?_
              refine ql (.int .i64 (i + 1)) (by kernel_rfl) (by kernel_rfl) ?_
              refine wpList_nil ?_
              replace HS : St W (owns []) W54 [blk g3 [.slice As ((xs.take (min xs.length ((gx acts i).2).toNat)).length) cs_] 88, row As ((xs.take (min xs.length ((gx acts i).2).toNat)).length) cs_ (ci .i64 (xs.take (min xs.length ((gx acts i).2).toNat))) 3 1, rde Aw (ci .i64 (xs.take (min xs.length ((gx acts i).2).toNat)))] := St.tail (F := [row A47 ((xs.drop (min xs.length ((gx acts i).2).toNat)).reverse.length) c48 (ci .i64 ((xs.drop (min xs.length ((gx acts i).2).toNat)).reverse)) 3 1, row A44 ((xs.drop (min xs.length ((gx acts i).2).toNat)).reverse.length) c45 (ci .i64 ((xs.drop (min xs.length ((gx acts i).2).toNat)).reverse)) 3 1]) (HS.perm (perm_ [0, 3, 1, 2, 4] (by kernel_rfl) rfl))
              refine x_then ?_
              exact ⟨acts.length - (i + 1).toNat, by omega, (fun k_ : Nat => List.getD ((.slice (some ad9) acts.length c) :: undef :: ((J5 2)) :: (.pointer (some ⟨g3, 0, none⟩)) :: (.slice Aw ((xs.take (min xs.length ((gx acts i).2).toNat)).length) cw) :: (.int .i64 (i + 1)) :: ((J5 6)) :: ((J5 7)) :: ((J5 8)) :: ((J5 9)) :: ((J5 10)) :: (.slice Aw ((xs.take (min xs.length ((gx acts i).2).toNat)).length) cw) :: (.slice A44 ((xs.drop (min xs.length ((gx acts i).2).toNat)).reverse.length) c45) :: (.slice Aw ((xs.take (min xs.length ((gx acts i).2).toNat)).length) cw) :: (.int .i64 0) :: (.bool false) :: (.int .i64 0) :: (.bool false) :: (.slice (some ad9) acts.length c) :: (.int .i64 (acts.length : Int)) :: (.bool false) :: undef :: (.int .i64 i) :: (.slice (some ad9) acts.length c) :: (.int .i64 (acts.length : Int)) :: (.bool true) :: (.int .i64 i) :: (.int .i64 (i + 1)) :: (.slice (some ad9) acts.length c) :: (.int .i64 i) :: (.pointer (some (ad9.add (i.toNat * 2)))) :: (.pointer (some (ad9.add (i.toNat * 2)))) :: (.int .i64 ((gx acts i).1)) :: (.bool false) :: (.bool false) :: ((J5 35)) :: ((J5 36)) :: ((J5 37)) :: ((J5 38)) :: ((J5 39)) :: ((J5 40)) :: ((J5 41)) :: ((J5 42)) :: ((J5 43)) :: ((J5 44)) :: ((J5 45)) :: ((J5 46)) :: ((J5 47)) :: ((J5 48)) :: ((J5 49)) :: ((J5 50)) :: ((J5 51)) :: (.bool false) :: (.bool false) :: ((J5 54)) :: ((J5 55)) :: ((J5 56)) :: ((J5 57)) :: ((J5 58)) :: ((J5 59)) :: ((J5 60)) :: ((J5 61)) :: ((J5 62)) :: ((J5 63)) :: ((J5 64)) :: ((J5 65)) :: ((J5 66)) :: ((J5 67)) :: ((J5 68)) :: ((J5 69)) :: ((J5 70)) :: ((J5 71)) :: ((J5 72)) :: (.bool true) :: (.bool true) :: (.tuple #[.slice Aw ((xs.take (min xs.length ((gx acts i).2).toNat)).length) cw, .slice A44 ((xs.drop (min xs.length ((gx acts i).2).toNat)).reverse.length) c45]) :: (.slice Aw xs.length cw) :: (.slice (some ad9) acts.length c) :: (.int .i64 i) :: (.pointer (some (ad9.add (i.toNat * 2)))) :: (.pointer (some ((ad9.add (i.toNat * 2)).add 1))) :: (.int .i64 ((gx acts i).2)) :: (.tuple #[.slice Aw ((xs.take (min xs.length ((gx acts i).2).toNat)).length) cw, .slice A44 ((xs.drop (min xs.length ((gx acts i).2).toNat)).reverse.length) c45]) :: (.slice Aw ((xs.take (min xs.length ((gx acts i).2).toNat)).length) cw) :: (.slice A44 ((xs.drop (min xs.length ((gx acts i).2).toNat)).reverse.length) c45) :: (.slice Aw ((xs.take (min xs.length ((gx acts i).2).toNat)).length) cw) :: (.slice (some ad9) acts.length c) :: (.int .i64 i) :: (.pointer (some (ad9.add (i.toNat * 2)))) :: (.pointer (some ((ad9.add (i.toNat * 2)).add 1))) :: (.int .i64 ((gx acts i).2)) :: (.slice A47 ((xs.drop (min xs.length ((gx acts i).2).toNat)).reverse.length) c48) :: (.slice A44 ((xs.drop (min xs.length ((gx acts i).2).toNat)).reverse.length) c45) :: (.bool true) :: (.bool false) :: (.tuple #[.slice Aw ((xs.take (min xs.length ((gx acts i).2).toNat)).length) cw, .int .i64 0, .bool false]) :: (.slice Aw ((xs.take (min xs.length ((gx acts i).2).toNat)).length) cw) :: (.tuple #[.slice Aw ((xs.take (min xs.length ((gx acts i).2).toNat)).length) cw, .int .i64 0, .bool false]) :: (.slice Aw ((xs.take (min xs.length ((gx acts i).2).toNat)).length) cw) :: (.int .i64 0) :: (.bool false) :: (.tuple #[.int .i64 0, .bool false]) :: (.tuple #[.int .i64 0, .bool false]) :: (.int .i64 0) :: (.bool false) :: (.int .i64 ((xs.take (min xs.length ((gx acts i).2).toNat)).length : Int)) :: (.slice Aw ((xs.take (min xs.length ((gx acts i).2).toNat)).length) cw) :: (.int .i64 ((xs.take (min xs.length ((gx acts i).2).toNat)).length : Int)) :: (.bool false) :: (.bool false) :: (.int .i64 0) :: (.int .i64 0) :: (.bool false) :: (.bool false) :: (.bool false) :: (.bool false) :: (.bool false) :: (.bool false) :: (.bool false) :: undef :: []) k_ undef), i + 1, As, cs_, (xs.take (min xs.length ((gx acts i).2).toNat)), Aw, cw, congrArg Fr (by kernel_rfl), rfl, by omega, by omega, by (try simp only [List.length_append, List.length_cons, List.length_nil, List.length_take] at *); omega, by (try simp only [List.length_append, List.length_cons, List.length_nil, List.length_take] at *); omega, HS⟩
            · skip
              obtain ⟨q9, hq9⟩ : ∃ z_ : List Int, z_ = (xs.take (min xs.length ((gx acts i).2).toNat)).take ((xs.take (min xs.length ((gx acts i).2).toNat)).length - 1) := ⟨_, rfl⟩
              refine (last_some _ cw (xs.take (min xs.length ((gx acts i).2).toNat)) _ (HS.get (i := 4) rfl) (by omega) (by (try simp only [List.length_append, List.length_cons, List.length_nil, List.length_take] at *); omega) (by (try simp only [List.length_append, List.length_cons, List.length_nil, List.length_take] at *); omega) q9 hq9).mono ?_
              rintro e W55 ⟨rfl, H_⟩
              refine ⟨_, rfl, ?_⟩
              replace HS : St W (owns []) W55 [row A47 ((xs.drop (min xs.length ((gx acts i).2).toNat)).reverse.length) c48 (ci .i64 ((xs.drop (min xs.length ((gx acts i).2).toNat)).reverse)) 3 1, blk g3 [.slice As ((xs.take (min xs.length ((gx acts i).2).toNat)).length) cs_] 88, row As ((xs.take (min xs.length ((gx acts i).2).toNat)).length) cs_ (ci .i64 (xs.take (min xs.length ((gx acts i).2).toNat))) 3 1, row A44 ((xs.drop (min xs.length ((gx acts i).2).toNat)).reverse.length) c45 (ci .i64 ((xs.drop (min xs.length ((gx acts i).2).toNat)).reverse)) 3 1, rde Aw (ci .i64 (xs.take (min xs.length ((gx acts i).2).toNat)))] := HS.join (F := []) (G := []) H_
              clear H_
              refine ql (.tuple #[.slice Aw q9.length cw, .int .i64 (rdI (xs.take (min xs.length ((gx acts i).2).toNat)) (((xs.take (min xs.length ((gx acts i).2).toNat)).length : Int) - 1)), .bool true]) (by kernel_rfl) (by kernel_rfl) ?_
              refine ql (.slice Aw q9.length cw) (by kernel_rfl) (by kernel_rfl) ?_
              refine ql (.int .i64 (rdI (xs.take (min xs.length ((gx acts i).2).toNat)) (((xs.take (min xs.length ((gx acts i).2).toNat)).length : Int) - 1))) (by kernel_rfl) (by kernel_rfl) ?_
              refine ql (.bool true) (by kernel_rfl) (by kernel_rfl) ?_
              refine ql (.slice Aw q9.length cw) (by kernel_rfl) (by kernel_rfl) ?_
              refine ql (.int .i64 (rdI (xs.take (min xs.length ((gx acts i).2).toNat)) (((xs.take (min xs.length ((gx acts i).2).toNat)).length : Int) - 1))) (by kernel_rfl) (by kernel_rfl) ?_
              refine ql (.bool true) (by kernel_rfl) (by kernel_rfl) ?_
              refine wpList_nil ?_
              refine x_then ?_
              refine wp_seq ?_
              refine wp_region_lit ?_
              refine qc (f := 62) (args := #[.pointer (some ⟨g3, 0, none⟩)]) (by kernel_rfl) (R_call #[.pointer (some ⟨g3, 0, none⟩)] Try.func62 (by kernel_rfl) (by kernel_rfl) (by kernel_rfl)) ?_
              refine (top_some _ _ _ (xs.take (min xs.length ((gx acts i).2).toNat)) _ (HS.cell (i := 1) (j := 0) rfl rfl) (Rd.row HS (i := 2) rfl) (by omega) (by (try simp only [List.length_append, List.length_cons, List.length_nil, List.length_take] at *); omega)).mono ?_
              rintro e W56 ⟨rfl, H_⟩
              refine ⟨_, rfl, ?_⟩
              replace HS : St W (owns []) W56 [row A47 ((xs.drop (min xs.length ((gx acts i).2).toNat)).reverse.length) c48 (ci .i64 ((xs.drop (min xs.length ((gx acts i).2).toNat)).reverse)) 3 1, blk g3 [.slice As ((xs.take (min xs.length ((gx acts i).2).toNat)).length) cs_] 88, row As ((xs.take (min xs.length ((gx acts i).2).toNat)).length) cs_ (ci .i64 (xs.take (min xs.length ((gx acts i).2).toNat))) 3 1, row A44 ((xs.drop (min xs.length ((gx acts i).2).toNat)).reverse.length) c45 (ci .i64 ((xs.drop (min xs.length ((gx acts i).2).toNat)).reverse)) 3 1, rde Aw (ci .i64 (xs.take (min xs.length ((gx acts i).2).toNat)))] := HS.join (F := []) (G := []) H_
              clear H_
              refine ql (.tuple #[.int .i64 (rdI (xs.take (min xs.length ((gx acts i).2).toNat)) (((xs.take (min xs.length ((gx acts i).2).toNat)).length : Int) - 1)), .bool true]) (by kernel_rfl) (by kernel_rfl) ?_
              refine ql (.int .i64 (rdI (xs.take (min xs.length ((gx acts i).2).toNat)) (((xs.take (min xs.length ((gx acts i).2).toNat)).length : Int) - 1))) (by kernel_rfl) (by kernel_rfl) ?_
              refine ql (.bool true) (by kernel_rfl) (by kernel_rfl) ?_
              refine ql (.int .i64 (rdI (xs.take (min xs.length ((gx acts i).2).toNat)) (((xs.take (min xs.length ((gx acts i).2).toNat)).length : Int) - 1))) (by kernel_rfl) (by kernel_rfl) ?_
              refine ql (.bool true) (by kernel_rfl) (by kernel_rfl) ?_
              refine wpList_nil ?_
              refine x_then ?_
              refine wp_seq ?_
              refine wp_region_lit ?_
              refine qc (f := 63) (args := #[.pointer (some ⟨g3, 0, none⟩)]) (by kernel_rfl) (R_call #[.pointer (some ⟨g3, 0, none⟩)] Try.func63 (by kernel_rfl) (by kernel_rfl) (by kernel_rfl)) ?_
              refine (slen _ _ _ (xs.take (min xs.length ((gx acts i).2).toNat)) _ (HS.cell (i := 1) (j := 0) rfl rfl)).mono ?_
              rintro e W57 ⟨rfl, H_⟩
              refine ⟨_, rfl, ?_⟩
              replace HS : St W (owns []) W57 [row A47 ((xs.drop (min xs.length ((gx acts i).2).toNat)).reverse.length) c48 (ci .i64 ((xs.drop (min xs.length ((gx acts i).2).toNat)).reverse)) 3 1, blk g3 [.slice As ((xs.take (min xs.length ((gx acts i).2).toNat)).length) cs_] 88, row As ((xs.take (min xs.length ((gx acts i).2).toNat)).length) cs_ (ci .i64 (xs.take (min xs.length ((gx acts i).2).toNat))) 3 1, row A44 ((xs.drop (min xs.length ((gx acts i).2).toNat)).reverse.length) c45 (ci .i64 ((xs.drop (min xs.length ((gx acts i).2).toNat)).reverse)) 3 1, rde Aw (ci .i64 (xs.take (min xs.length ((gx acts i).2).toNat)))] := HS.join (F := []) (G := []) H_
              clear H_
              refine ql (.slice Aw ((xs.take (min xs.length ((gx acts i).2).toNat)).length) cw) (by kernel_rfl) (by kernel_rfl) ?_
              refine ql (.int .i64 ((xs.take (min xs.length ((gx acts i).2).toNat)).length : Int)) (by kernel_rfl) (by kernel_rfl) ?_
              refine ql (.bool false) (by kernel_rfl) (R_beq (b := (((xs.take (min xs.length ((gx acts i).2).toNat)).length : Int) != ((xs.take (min xs.length ((gx acts i).2).toNat)).length : Int))) (by kernel_rfl) (bne_f (by omega))) ?_
              refine ql (.bool false) (by kernel_rfl) (by kernel_rfl) ?_
              refine ql (.int .i64 (rdI (xs.take (min xs.length ((gx acts i).2).toNat)) (((xs.take (min xs.length ((gx acts i).2).toNat)).length : Int) - 1))) (by kernel_rfl) (by kernel_rfl) ?_
              refine ql (.int .i64 (rdI (xs.take (min xs.length ((gx acts i).2).toNat)) (((xs.take (min xs.length ((gx acts i).2).toNat)).length : Int) - 1))) (by kernel_rfl) (by kernel_rfl) ?_
              refine ql (.bool false) (by kernel_rfl) (R_beq (b := (rdI (xs.take (min xs.length ((gx acts i).2).toNat)) (((xs.take (min xs.length ((gx acts i).2).toNat)).length : Int) - 1) != rdI (xs.take (min xs.length ((gx acts i).2).toNat)) (((xs.take (min xs.length ((gx acts i).2).toNat)).length : Int) - 1))) (by kernel_rfl) (bne_f (by omega))) ?_
              refine ql (.bool false) (by kernel_rfl) (by kernel_rfl) ?_
              refine ql (.bool false) (by kernel_rfl) (by kernel_rfl) ?_
              refine ql (.bool true) (by kernel_rfl) (by kernel_rfl) ?_
              refine ql (.bool true) (by kernel_rfl) (by kernel_rfl) ?_
              refine ql (.bool false) (by kernel_rfl) (by kernel_rfl) ?_
              refine ql (.bool false) (by kernel_rfl) (by kernel_rfl) ?_
              refine wpList_nil ?_
              refine x_then ?_
              refine wp_cond_false (by kernel_rfl) ?_
              refine wp_skip ?_
              refine x_inb ?_
              refine x_then ?_
              refine wp_region_lit ?_
              refine ql (.int .i64 i) (by kernel_rfl) (by kernel_rfl) ?_
              refine ql (.int .i64 (i + 1)) (by kernel_rfl) (R_int (by kernel_rfl) (w64 (by omega))) ?_
              refine ql (.int .i64 (i + 1)) (by kernel_rfl) (by kernel_rfl) ?_
              refine wpList_nil ?_
              replace HS : St W (owns []) W57 [blk g3 [.slice As ((xs.take (min xs.length ((gx acts i).2).toNat)).length) cs_] 88, row As ((xs.take (min xs.length ((gx acts i).2).toNat)).length) cs_ (ci .i64 (xs.take (min xs.length ((gx acts i).2).toNat))) 3 1, rde Aw (ci .i64 (xs.take (min xs.length ((gx acts i).2).toNat)))] := St.tail (F := [row A47 ((xs.drop (min xs.length ((gx acts i).2).toNat)).reverse.length) c48 (ci .i64 ((xs.drop (min xs.length ((gx acts i).2).toNat)).reverse)) 3 1, row A44 ((xs.drop (min xs.length ((gx acts i).2).toNat)).reverse.length) c45 (ci .i64 ((xs.drop (min xs.length ((gx acts i).2).toNat)).reverse)) 3 1]) (HS.perm (perm_ [0, 3, 1, 2, 4] (by kernel_rfl) rfl))
              refine x_then ?_
              exact ⟨acts.length - (i + 1).toNat, by omega, (fun k_ : Nat => List.getD ((.slice (some ad9) acts.length c) :: undef :: ((J5 2)) :: (.pointer (some ⟨g3, 0, none⟩)) :: (.slice Aw ((xs.take (min xs.length ((gx acts i).2).toNat)).length) cw) :: (.int .i64 (i + 1)) :: ((J5 6)) :: ((J5 7)) :: ((J5 8)) :: ((J5 9)) :: ((J5 10)) :: (.slice Aw ((xs.take (min xs.length ((gx acts i).2).toNat)).length) cw) :: (.slice A44 ((xs.drop (min xs.length ((gx acts i).2).toNat)).reverse.length) c45) :: (.slice Aw q9.length cw) :: (.int .i64 (rdI (xs.take (min xs.length ((gx acts i).2).toNat)) (((xs.take (min xs.length ((gx acts i).2).toNat)).length : Int) - 1))) :: (.bool true) :: (.int .i64 (rdI (xs.take (min xs.length ((gx acts i).2).toNat)) (((xs.take (min xs.length ((gx acts i).2).toNat)).length : Int) - 1))) :: (.bool true) :: (.slice (some ad9) acts.length c) :: (.int .i64 (acts.length : Int)) :: (.bool false) :: undef :: (.int .i64 i) :: (.slice (some ad9) acts.length c) :: (.int .i64 (acts.length : Int)) :: (.bool true) :: (.int .i64 i) :: (.int .i64 (i + 1)) :: (.slice (some ad9) acts.length c) :: (.int .i64 i) :: (.pointer (some (ad9.add (i.toNat * 2)))) :: (.pointer (some (ad9.add (i.toNat * 2)))) :: (.int .i64 ((gx acts i).1)) :: (.bool false) :: (.bool false) :: ((J5 35)) :: ((J5 36)) :: ((J5 37)) :: ((J5 38)) :: ((J5 39)) :: ((J5 40)) :: ((J5 41)) :: ((J5 42)) :: ((J5 43)) :: ((J5 44)) :: ((J5 45)) :: ((J5 46)) :: ((J5 47)) :: ((J5 48)) :: ((J5 49)) :: ((J5 50)) :: ((J5 51)) :: (.bool false) :: (.bool false) :: ((J5 54)) :: ((J5 55)) :: ((J5 56)) :: ((J5 57)) :: ((J5 58)) :: ((J5 59)) :: ((J5 60)) :: ((J5 61)) :: ((J5 62)) :: ((J5 63)) :: ((J5 64)) :: ((J5 65)) :: ((J5 66)) :: ((J5 67)) :: ((J5 68)) :: ((J5 69)) :: ((J5 70)) :: ((J5 71)) :: ((J5 72)) :: (.bool true) :: (.bool true) :: (.tuple #[.slice Aw ((xs.take (min xs.length ((gx acts i).2).toNat)).length) cw, .slice A44 ((xs.drop (min xs.length ((gx acts i).2).toNat)).reverse.length) c45]) :: (.slice Aw xs.length cw) :: (.slice (some ad9) acts.length c) :: (.int .i64 i) :: (.pointer (some (ad9.add (i.toNat * 2)))) :: (.pointer (some ((ad9.add (i.toNat * 2)).add 1))) :: (.int .i64 ((gx acts i).2)) :: (.tuple #[.slice Aw ((xs.take (min xs.length ((gx acts i).2).toNat)).length) cw, .slice A44 ((xs.drop (min xs.length ((gx acts i).2).toNat)).reverse.length) c45]) :: (.slice Aw ((xs.take (min xs.length ((gx acts i).2).toNat)).length) cw) :: (.slice A44 ((xs.drop (min xs.length ((gx acts i).2).toNat)).reverse.length) c45) :: (.slice Aw ((xs.take (min xs.length ((gx acts i).2).toNat)).length) cw) :: (.slice (some ad9) acts.length c) :: (.int .i64 i) :: (.pointer (some (ad9.add (i.toNat * 2)))) :: (.pointer (some ((ad9.add (i.toNat * 2)).add 1))) :: (.int .i64 ((gx acts i).2)) :: (.slice A47 ((xs.drop (min xs.length ((gx acts i).2).toNat)).reverse.length) c48) :: (.slice A44 ((xs.drop (min xs.length ((gx acts i).2).toNat)).reverse.length) c45) :: (.bool true) :: (.bool false) :: (.tuple #[.slice Aw q9.length cw, .int .i64 (rdI (xs.take (min xs.length ((gx acts i).2).toNat)) (((xs.take (min xs.length ((gx acts i).2).toNat)).length : Int) - 1)), .bool true]) :: (.slice Aw ((xs.take (min xs.length ((gx acts i).2).toNat)).length) cw) :: (.tuple #[.slice Aw q9.length cw, .int .i64 (rdI (xs.take (min xs.length ((gx acts i).2).toNat)) (((xs.take (min xs.length ((gx acts i).2).toNat)).length : Int) - 1)), .bool true]) :: (.slice Aw q9.length cw) :: (.int .i64 (rdI (xs.take (min xs.length ((gx acts i).2).toNat)) (((xs.take (min xs.length ((gx acts i).2).toNat)).length : Int) - 1))) :: (.bool true) :: (.tuple #[.int .i64 (rdI (xs.take (min xs.length ((gx acts i).2).toNat)) (((xs.take (min xs.length ((gx acts i).2).toNat)).length : Int) - 1)), .bool true]) :: (.tuple #[.int .i64 (rdI (xs.take (min xs.length ((gx acts i).2).toNat)) (((xs.take (min xs.length ((gx acts i).2).toNat)).length : Int) - 1)), .bool true]) :: (.int .i64 (rdI (xs.take (min xs.length ((gx acts i).2).toNat)) (((xs.take (min xs.length ((gx acts i).2).toNat)).length : Int) - 1))) :: (.bool true) :: (.int .i64 ((xs.take (min xs.length ((gx acts i).2).toNat)).length : Int)) :: (.slice Aw ((xs.take (min xs.length ((gx acts i).2).toNat)).length) cw) :: (.int .i64 ((xs.take (min xs.length ((gx acts i).2).toNat)).length : Int)) :: (.bool false) :: (.bool false) :: (.int .i64 (rdI (xs.take (min xs.length ((gx acts i).2).toNat)) (((xs.take (min xs.length ((gx acts i).2).toNat)).length : Int) - 1))) :: (.int .i64 (rdI (xs.take (min xs.length ((gx acts i).2).toNat)) (((xs.take (min xs.length ((gx acts i).2).toNat)).length : Int) - 1))) :: (.bool false) :: (.bool false) :: (.bool false) :: (.bool true) :: (.bool true) :: (.bool false) :: (.bool false) :: undef :: []) k_ undef), i + 1, As, cs_, (xs.take (min xs.length ((gx acts i).2).toNat)), Aw, cw, congrArg Fr (by kernel_rfl), rfl, by omega, by omega, by (try simp only [List.length_append, List.length_cons, List.length_nil, List.length_take] at *); omega, by (try simp only [List.length_append, List.length_cons, List.length_nil, List.length_take] at *); omega, HS⟩
          · skip
            refine ql (.bool false) (by kernel_rfl) (R_beq (b := ((gx acts i).1 == (2 : Int))) (by kernel_rfl) (beq_f (hc43))) ?_
            refine ql (.bool false) (by kernel_rfl) (by kernel_rfl) ?_
            refine wpList_nil ?_
            refine x_then ?_
            refine wp_cond_false (by kernel_rfl) ?_
            refine wp_skip ?_
            refine x_inb ?_
            refine x_then ?_
            refine wp_seq ?_
            have hx9 : xs.length ≤ 200 := by (try simp only [List.length_append, List.length_cons, List.length_nil, List.length_take] at *); omega
            refine wp_region_lit ?_
            refine ql (.slice Aw xs.length cw) (by kernel_rfl) (by kernel_rfl) ?_
            refine qc (f := 57) (args := #[.slice Aw xs.length cw]) (by kernel_rfl) (R_call #[.slice Aw xs.length cw] Try.func57 (by kernel_rfl) (by kernel_rfl) (by kernel_rfl)) ?_
            by_cases hn58 : xs.length = 0
            · skip
              refine (last_nil _ cw xs _ (HS.get (i := 2) rfl) (by omega) (by omega) (by (try simp only [List.length_append, List.length_cons, List.length_nil, List.length_take] at *); omega)).mono ?_
              rintro e W59 ⟨rfl, H_⟩
              refine ⟨_, rfl, ?_⟩
              replace HS : St W (owns []) W59 [blk g3 [.slice As xs.length cs_] 88, row As xs.length cs_ (ci .i64 xs) 3 1, rde Aw (ci .i64 xs)] := HS.join (F := []) (G := []) H_
              clear H_
              refine ql (.tuple #[.slice Aw xs.length cw, .int .i64 0, .bool false]) (by kernel_rfl) (by kernel_rfl) ?_
              refine ql (.slice Aw xs.length cw) (by kernel_rfl) (by kernel_rfl) ?_
              refine ql (.int .i64 0) (by kernel_rfl) (by kernel_rfl) ?_
              refine ql (.bool false) (by kernel_rfl) (by kernel_rfl) ?_
              refine ql (.slice Aw xs.length cw) (by kernel_rfl) (by kernel_rfl) ?_
              refine ql (.int .i64 0) (by kernel_rfl) (by kernel_rfl) ?_
              refine ql (.bool false) (by kernel_rfl) (by kernel_rfl) ?_
              refine wpList_nil ?_
              refine x_then ?_
              refine wp_seq ?_
              refine wp_region_lit ?_
              refine qc (f := 62) (args := #[.pointer (some ⟨g3, 0, none⟩)]) (by kernel_rfl) (R_call #[.pointer (some ⟨g3, 0, none⟩)] Try.func62 (by kernel_rfl) (by kernel_rfl) (by kernel_rfl)) ?_
              refine (top_nil _ _ _ xs _ (HS.cell (i := 0) (j := 0) rfl rfl) (Rd.row HS (i := 1) rfl) (by omega) (by omega)).mono ?_
              rintro e W60 ⟨rfl, H_⟩
              refine ⟨_, rfl, ?_⟩
              replace HS : St W (owns []) W60 [blk g3 [.slice As xs.length cs_] 88, row As xs.length cs_ (ci .i64 xs) 3 1, rde Aw (ci .i64 xs)] := HS.join (F := []) (G := []) H_
              clear H_
              refine ql (.tuple #[.int .i64 0, .bool false]) (by kernel_rfl) (by kernel_rfl) ?_
              refine ql (.int .i64 0) (by kernel_rfl) (by kernel_rfl) ?_
              refine ql (.bool false) (by kernel_rfl) (by kernel_rfl) ?_
              refine ql (.int .i64 0) (by kernel_rfl) (by kernel_rfl) ?_
              refine ql (.bool false) (by kernel_rfl) (by kernel_rfl) ?_
              refine wpList_nil ?_
              refine x_then ?_
              refine wp_seq ?_
              refine wp_region_lit ?_
              refine qc (f := 63) (args := #[.pointer (some ⟨g3, 0, none⟩)]) (by kernel_rfl) (R_call #[.pointer (some ⟨g3, 0, none⟩)] Try.func63 (by kernel_rfl) (by kernel_rfl) (by kernel_rfl)) ?_
              refine (slen _ _ _ xs _ (HS.cell (i := 0) (j := 0) rfl rfl)).mono ?_
              rintro e W61 ⟨rfl, H_⟩
              refine ⟨_, rfl, ?_⟩
              replace HS : St W (owns []) W61 [blk g3 [.slice As xs.length cs_] 88, row As xs.length cs_ (ci .i64 xs) 3 1, rde Aw (ci .i64 xs)] := HS.join (F := []) (G := []) H_
              clear H_
              refine ql (.slice Aw xs.length cw) (by kernel_rfl) (by kernel_rfl) ?_
              refine ql (.int .i64 (xs.length : Int)) (by kernel_rfl) (by kernel_rfl) ?_
              refine ql (.bool false) (by kernel_rfl) (R_beq (b := ((xs.length : Int) != (xs.length : Int))) (by kernel_rfl) (bne_f (by omega))) ?_
              refine ql (.bool false) (by kernel_rfl) (by kernel_rfl) ?_
              refine ql (.int .i64 0) (by kernel_rfl) (by kernel_rfl) ?_
              refine ql (.int .i64 0) (by kernel_rfl) (by kernel_rfl) ?_
              refine ql (.bool false) (by kernel_rfl) (R_beq (b := ((0 : Int) != 0)) (by kernel_rfl) (by decide)) ?_
              refine ql (.bool false) (by kernel_rfl) (by kernel_rfl) ?_
              refine ql (.bool false) (by kernel_rfl) (by kernel_rfl) ?_
              refine ql (.bool false) (by kernel_rfl) (by kernel_rfl) ?_
              refine ql (.bool false) (by kernel_rfl) (by kernel_rfl) ?_
              refine ql (.bool false) (by kernel_rfl) (by kernel_rfl) ?_
              refine ql (.bool false) (by kernel_rfl) (by kernel_rfl) ?_
              refine wpList_nil ?_
              refine x_then ?_
              refine wp_cond_false (by kernel_rfl) ?_
              refine wp_skip ?_
              refine x_inb ?_
              refine x_then ?_
              refine wp_region_lit ?_
              refine ql (.int .i64 i) (by kernel_rfl) (by kernel_rfl) ?_
              refine ql (.int .i64 (i + 1)) (by kernel_rfl) (R_int (by kernel_rfl) (w64 (by omega))) ?_
              refine ql (.int .i64 (i + 1)) (by kernel_rfl) (by kernel_rfl) ?_
              refine wpList_nil ?_
              refine x_then ?_
              exact ⟨acts.length - (i + 1).toNat, by omega, (fun k_ : Nat => List.getD ((.slice (some ad9) acts.length c) :: undef :: ((J5 2)) :: (.pointer (some ⟨g3, 0, none⟩)) :: (.slice Aw xs.length cw) :: (.int .i64 (i + 1)) :: ((J5 6)) :: ((J5 7)) :: ((J5 8)) :: ((J5 9)) :: ((J5 10)) :: ((J5 11)) :: ((J5 12)) :: (.slice Aw xs.length cw) :: (.int .i64 0) :: (.bool false) :: (.int .i64 0) :: (.bool false) :: (.slice (some ad9) acts.length c) :: (.int .i64 (acts.length : Int)) :: (.bool false) :: undef :: (.int .i64 i) :: (.slice (some ad9) acts.length c) :: (.int .i64 (acts.length : Int)) :: (.bool true) :: (.int .i64 i) :: (.int .i64 (i + 1)) :: (.slice (some ad9) acts.length c) :: (.int .i64 i) :: (.pointer (some (ad9.add (i.toNat * 2)))) :: (.pointer (some (ad9.add (i.toNat * 2)))) :: (.int .i64 ((gx acts i).1)) :: (.bool false) :: (.bool false) :: ((J5 35)) :: ((J5 36)) :: ((J5 37)) :: ((J5 38)) :: ((J5 39)) :: ((J5 40)) :: ((J5 41)) :: ((J5 42)) :: ((J5 43)) :: ((J5 44)) :: ((J5 45)) :: ((J5 46)) :: ((J5 47)) :: ((J5 48)) :: ((J5 49)) :: ((J5 50)) :: ((J5 51)) :: (.bool false) :: (.bool false) :: ((J5 54)) :: ((J5 55)) :: ((J5 56)) :: ((J5 57)) :: ((J5 58)) :: ((J5 59)) :: ((J5 60)) :: ((J5 61)) :: ((J5 62)) :: ((J5 63)) :: ((J5 64)) :: ((J5 65)) :: ((J5 66)) :: ((J5 67)) :: ((J5 68)) :: ((J5 69)) :: ((J5 70)) :: ((J5 71)) :: ((J5 72)) :: (.bool false) :: (.bool false) :: ((J5 75)) :: ((J5 76)) :: ((J5 77)) :: ((J5 78)) :: ((J5 79)) :: ((J5 80)) :: ((J5 81)) :: ((J5 82)) :: ((J5 83)) :: ((J5 84)) :: ((J5 85)) :: ((J5 86)) :: ((J5 87)) :: ((J5 88)) :: ((J5 89)) :: ((J5 90)) :: ((J5 91)) :: ((J5 92)) :: ((J5 93)) :: ((J5 94)) :: (.tuple #[.slice Aw xs.length cw, .int .i64 0, .bool false]) :: (.slice Aw xs.length cw) :: (.tuple #[.slice Aw xs.length cw, .int .i64 0, .bool false]) :: (.slice Aw xs.length cw) :: (.int .i64 0) :: (.bool false) :: (.tuple #[.int .i64 0, .bool false]) :: (.tuple #[.int .i64 0, .bool false]) :: (.int .i64 0) :: (.bool false) :: (.int .i64 (xs.length : Int)) :: (.slice Aw xs.length cw) :: (.int .i64 (xs.length : Int)) :: (.bool false) :: (.bool false) :: (.int .i64 0) :: (.int .i64 0) :: (.bool false) :: (.bool false) :: (.bool false) :: (.bool false) :: (.bool false) :: (.bool false) :: (.bool false) :: undef :: []) k_ undef), i + 1, As, cs_, xs, Aw, cw, congrArg Fr (by kernel_rfl), rfl, by omega, by omega, by (try simp only [List.length_append, List.length_cons, List.length_nil, List.length_take] at *); omega, by (try simp only [List.length_append, List.length_cons, List.length_nil, List.length_take] at *); omega, HS⟩
            · skip
              obtain ⟨q9, hq9⟩ : ∃ z_ : List Int, z_ = xs.take (xs.length - 1) := ⟨_, rfl⟩
              refine (last_some _ cw xs _ (HS.get (i := 2) rfl) (by omega) (by (try simp only [List.length_append, List.length_cons, List.length_nil, List.length_take] at *); omega) (by (try simp only [List.length_append, List.length_cons, List.length_nil, List.length_take] at *); omega) q9 hq9).mono ?_
              rintro e W62 ⟨rfl, H_⟩
              refine ⟨_, rfl, ?_⟩
              replace HS : St W (owns []) W62 [blk g3 [.slice As xs.length cs_] 88, row As xs.length cs_ (ci .i64 xs) 3 1, rde Aw (ci .i64 xs)] := HS.join (F := []) (G := []) H_
              clear H_
              refine ql (.tuple #[.slice Aw q9.length cw, .int .i64 (rdI xs ((xs.length : Int) - 1)), .bool true]) (by kernel_rfl) (by kernel_rfl) ?_
              refine ql (.slice Aw q9.length cw) (by kernel_rfl) (by kernel_rfl) ?_
              refine ql (.int .i64 (rdI xs ((xs.length : Int) - 1))) (by kernel_rfl) (by kernel_rfl) ?_
              refine ql (.bool true) (by kernel_rfl) (by kernel_rfl) ?_
              refine ql (.slice Aw q9.length cw) (by kernel_rfl) (by kernel_rfl) ?_
              refine ql (.int .i64 (rdI xs ((xs.length : Int) - 1))) (by kernel_rfl) (by kernel_rfl) ?_
              refine ql (.bool true) (by kernel_rfl) (by kernel_rfl) ?_
              refine wpList_nil ?_
              refine x_then ?_
              refine wp_seq ?_
              refine wp_region_lit ?_
              refine qc (f := 62) (args := #[.pointer (some ⟨g3, 0, none⟩)]) (by kernel_rfl) (R_call #[.pointer (some ⟨g3, 0, none⟩)] Try.func62 (by kernel_rfl) (by kernel_rfl) (by kernel_rfl)) ?_
              refine (top_some _ _ _ xs _ (HS.cell (i := 0) (j := 0) rfl rfl) (Rd.row HS (i := 1) rfl) (by omega) (by (try simp only [List.length_append, List.length_cons, List.length_nil, List.length_take] at *); omega)).mono ?_
              rintro e W63 ⟨rfl, H_⟩
              refine ⟨_, rfl, ?_⟩
              replace HS : St W (owns []) W63 [blk g3 [.slice As xs.length cs_] 88, row As xs.length cs_ (ci .i64 xs) 3 1, rde Aw (ci .i64 xs)] := HS.join (F := []) (G := []) H_
              clear H_
              refine ql (.tuple #[.int .i64 (rdI xs ((xs.length : Int) - 1)), .bool true]) (by kernel_rfl) (by kernel_rfl) ?_
              refine ql (.int .i64 (rdI xs ((xs.length : Int) - 1))) (by kernel_rfl) (by kernel_rfl) ?_
              refine ql (.bool true) (by kernel_rfl) (by kernel_rfl) ?_
              refine ql (.int .i64 (rdI xs ((xs.length : Int) - 1))) (by kernel_rfl) (by kernel_rfl) ?_
              refine ql (.bool true) (by kernel_rfl) (by kernel_rfl) ?_
              refine wpList_nil ?_
              refine x_then ?_
              refine wp_seq ?_
              refine wp_region_lit ?_
              refine qc (f := 63) (args := #[.pointer (some ⟨g3, 0, none⟩)]) (by kernel_rfl) (R_call #[.pointer (some ⟨g3, 0, none⟩)] Try.func63 (by kernel_rfl) (by kernel_rfl) (by kernel_rfl)) ?_
              refine (slen _ _ _ xs _ (HS.cell (i := 0) (j := 0) rfl rfl)).mono ?_
              rintro e W64 ⟨rfl, H_⟩
              refine ⟨_, rfl, ?_⟩
              replace HS : St W (owns []) W64 [blk g3 [.slice As xs.length cs_] 88, row As xs.length cs_ (ci .i64 xs) 3 1, rde Aw (ci .i64 xs)] := HS.join (F := []) (G := []) H_
              clear H_
              refine ql (.slice Aw xs.length cw) (by kernel_rfl) (by kernel_rfl) ?_
              refine ql (.int .i64 (xs.length : Int)) (by kernel_rfl) (by kernel_rfl) ?_
              refine ql (.bool false) (by kernel_rfl) (R_beq (b := ((xs.length : Int) != (xs.length : Int))) (by kernel_rfl) (bne_f (by omega))) ?_
              refine ql (.bool false) (by kernel_rfl) (by kernel_rfl) ?_
              refine ql (.int .i64 (rdI xs ((xs.length : Int) - 1))) (by kernel_rfl) (by kernel_rfl) ?_
              refine ql (.int .i64 (rdI xs ((xs.length : Int) - 1))) (by kernel_rfl) (by kernel_rfl) ?_
              refine ql (.bool false) (by kernel_rfl) (R_beq (b := (rdI xs ((xs.length : Int) - 1) != rdI xs ((xs.length : Int) - 1))) (by kernel_rfl) (bne_f (by omega))) ?_
              refine ql (.bool false) (by kernel_rfl) (by kernel_rfl) ?_
              refine ql (.bool false) (by kernel_rfl) (by kernel_rfl) ?_
              refine ql (.bool true) (by kernel_rfl) (by kernel_rfl) ?_
              refine ql (.bool true) (by kernel_rfl) (by kernel_rfl) ?_
              refine ql (.bool false) (by kernel_rfl) (by kernel_rfl) ?_
              refine ql (.bool false) (by kernel_rfl) (by kernel_rfl) ?_
              refine wpList_nil ?_
              refine x_then ?_
              refine wp_cond_false (by kernel_rfl) ?_
              refine wp_skip ?_
              refine x_inb ?_
              refine x_then ?_
              refine wp_region_lit ?_
              refine ql (.int .i64 i) (by kernel_rfl) (by kernel_rfl) ?_
              refine ql (.int .i64 (i + 1)) (by kernel_rfl) (R_int (by kernel_rfl) (w64 (by omega))) ?_
              refine ql (.int .i64 (i + 1)) (by kernel_rfl) (by kernel_rfl) ?_
              refine wpList_nil ?_
              refine x_then ?_
              exact ⟨acts.length - (i + 1).toNat, by omega, (fun k_ : Nat => List.getD ((.slice (some ad9) acts.length c) :: undef :: ((J5 2)) :: (.pointer (some ⟨g3, 0, none⟩)) :: (.slice Aw xs.length cw) :: (.int .i64 (i + 1)) :: ((J5 6)) :: ((J5 7)) :: ((J5 8)) :: ((J5 9)) :: ((J5 10)) :: ((J5 11)) :: ((J5 12)) :: (.slice Aw q9.length cw) :: (.int .i64 (rdI xs ((xs.length : Int) - 1))) :: (.bool true) :: (.int .i64 (rdI xs ((xs.length : Int) - 1))) :: (.bool true) :: (.slice (some ad9) acts.length c) :: (.int .i64 (acts.length : Int)) :: (.bool false) :: undef :: (.int .i64 i) :: (.slice (some ad9) acts.length c) :: (.int .i64 (acts.length : Int)) :: (.bool true) :: (.int .i64 i) :: (.int .i64 (i + 1)) :: (.slice (some ad9) acts.length c) :: (.int .i64 i) :: (.pointer (some (ad9.add (i.toNat * 2)))) :: (.pointer (some (ad9.add (i.toNat * 2)))) :: (.int .i64 ((gx acts i).1)) :: (.bool false) :: (.bool false) :: ((J5 35)) :: ((J5 36)) :: ((J5 37)) :: ((J5 38)) :: ((J5 39)) :: ((J5 40)) :: ((J5 41)) :: ((J5 42)) :: ((J5 43)) :: ((J5 44)) :: ((J5 45)) :: ((J5 46)) :: ((J5 47)) :: ((J5 48)) :: ((J5 49)) :: ((J5 50)) :: ((J5 51)) :: (.bool false) :: (.bool false) :: ((J5 54)) :: ((J5 55)) :: ((J5 56)) :: ((J5 57)) :: ((J5 58)) :: ((J5 59)) :: ((J5 60)) :: ((J5 61)) :: ((J5 62)) :: ((J5 63)) :: ((J5 64)) :: ((J5 65)) :: ((J5 66)) :: ((J5 67)) :: ((J5 68)) :: ((J5 69)) :: ((J5 70)) :: ((J5 71)) :: ((J5 72)) :: (.bool false) :: (.bool false) :: ((J5 75)) :: ((J5 76)) :: ((J5 77)) :: ((J5 78)) :: ((J5 79)) :: ((J5 80)) :: ((J5 81)) :: ((J5 82)) :: ((J5 83)) :: ((J5 84)) :: ((J5 85)) :: ((J5 86)) :: ((J5 87)) :: ((J5 88)) :: ((J5 89)) :: ((J5 90)) :: ((J5 91)) :: ((J5 92)) :: ((J5 93)) :: ((J5 94)) :: (.tuple #[.slice Aw q9.length cw, .int .i64 (rdI xs ((xs.length : Int) - 1)), .bool true]) :: (.slice Aw xs.length cw) :: (.tuple #[.slice Aw q9.length cw, .int .i64 (rdI xs ((xs.length : Int) - 1)), .bool true]) :: (.slice Aw q9.length cw) :: (.int .i64 (rdI xs ((xs.length : Int) - 1))) :: (.bool true) :: (.tuple #[.int .i64 (rdI xs ((xs.length : Int) - 1)), .bool true]) :: (.tuple #[.int .i64 (rdI xs ((xs.length : Int) - 1)), .bool true]) :: (.int .i64 (rdI xs ((xs.length : Int) - 1))) :: (.bool true) :: (.int .i64 (xs.length : Int)) :: (.slice Aw xs.length cw) :: (.int .i64 (xs.length : Int)) :: (.bool false) :: (.bool false) :: (.int .i64 (rdI xs ((xs.length : Int) - 1))) :: (.int .i64 (rdI xs ((xs.length : Int) - 1))) :: (.bool false) :: (.bool false) :: (.bool false) :: (.bool true) :: (.bool true) :: (.bool false) :: (.bool false) :: undef :: []) k_ undef), i + 1, As, cs_, xs, Aw, cw, congrArg Fr (by kernel_rfl), rfl, by omega, by omega, by (try simp only [List.length_append, List.length_cons, List.length_nil, List.length_take] at *); omega, by (try simp only [List.length_append, List.length_cons, List.length_nil, List.length_take] at *); omega, HS⟩
    · skip
      refine ql (.bool false) (by kernel_rfl) (R_nbool (p := i < (acts.length : Int)) (by kernel_rfl) (hc8)) ?_
      refine wpList_nil ?_
      refine x_then ?_
      refine wp_cond_false (by kernel_rfl) ?_
      refine wp_exit ?_
      refine x_thenE ?_
      refine x_thenE ?_
      refine x_hit ?_
      refine x_then ?_
      refine wp_seq ?_
      refine wp_region_lit ?_
      refine qc (f := 35) (args := #[]) (by kernel_rfl) (R_call #[] Try.func35 (by kernel_rfl) (by kernel_rfl) (by kernel_rfl)) ?_
      refine (awake07 _).mono ?_
      rintro e W65 ⟨rfl, H_⟩
      refine ⟨_, rfl, ?_⟩
      replace HS : St W (owns []) W65 [blk g3 [.slice As xs.length cs_] 88, row As xs.length cs_ (ci .i64 xs) 3 1, rde Aw (ci .i64 xs)] := HS.join (F := []) (G := []) H_
      clear H_
      refine ql (.bool true) (by kernel_rfl) (by kernel_rfl) ?_
      refine wpList_nil ?_
      refine x_then ?_
      refine wp_ret ?_
      refine ret_ (.bool true) (by kernel_rfl) ?_
      exact ⟨rfl, HS.tail (F := [blk g3 [.slice As xs.length cs_] 88, row As xs.length cs_ (ci .i64 xs) 3 1, rde Aw (ci .i64 xs)])⟩

end Go.Proofs.Ytnabbhcagonlkaa.GStackPlays
