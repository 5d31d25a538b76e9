/- Written for this claim by gp.py, a program of this session's, over the kit's print. Lean checks it. -/
import Derived.Test.YthfpdpjccnnlhaaGGraphReachesx0
import Derived.Test.YthfpdpjccnnlhaaGGraphReacheshx
import Derived.Test.YthfpdpjccnnlhaaGGraphReacheshhp1
import Derived.Test.YthfpdpjccnnlhaaGGraphReacheshhp2
import Derived.Test.YthfpdpjccnnlhaaGGraphReacheshgp
import Derived.Test.YthfpdpjccnnlhaaGGraphReacheshg1
import Derived.Test.YthfpdpjccnnlhaaGGraphReacheshg2
import Derived.Test.YthfpdpjccnnlhaaGGraphReacheshg4
import Derived.Test.YthfpdpjccnnlhaaGGraphReacheshg5
import Derived.Test.YthfpdpjccnnlhaaGGraphReacheshg6
import Derived.WalkKit
import Derived.StillTailTactics
import Derived.Deep.LoopGhost
import Derived.KernelRfl
import Derived.Deep.OwnRows
import Derived.Laws.OwnMore
import Derived.Laws.MakeOwn
import Derived.Maps.AppendAt
import Derived.OrdersHeld
namespace Go.Proofs.Ythfpdpjccnnlhaa.GGraphReaches
open Go.RowKit Go.Proofs.YthfpdpjccnnlhaaW.PrintWords Go.Proofs.YthfpdpjccnnlhaaW.PrintLast Go.Proofs.YthfpdpjccnnlhaaW.PrintMore
attribute [local go_sem] max2_int min2_int max_two min_two max_three min_three max_four min_four   -- for this text's walks alone
set_option linter.unusedVariables false
set_option linter.unusedSimpArgs false

--import Derived.WalkKit
--import Derived.StillTailTactics
--import Derived.Deep.LoopGhost
--import Derived.KernelRfl
--import Derived.Deep.OwnRows
--import Derived.Laws.OwnMore
--import Derived.Laws.MakeOwn
--import Derived.Maps.AppendAt
--import Derived.OrdersHeld
attribute [local irreducible] wpStill wpList Code.wp TA

theorem GAt.fine {W : World} {g N : Nat} {arcs : List (Int × Int)} (h : GAt W g N arcs) : Fine N arcs := by
  obtain ⟨A1, c1, A2, c2, A3, c3, A4, c4, A5, c5, os, js, hB, r1, r2, r3, r4, r5, l1, l2, hF, rest⟩ := h; exact hF

theorem swap_swap (arcs : List (Int × Int)) : (arcs.map swap).map swap = arcs := by
  rw [List.map_map, show swap ∘ swap = id from funext fun _ => rfl, List.map_id]
theorem gx_swap {arcs : List (Int × Int)} {i : Int} (h0 : 0 ≤ i) (h1 : i < arcs.length) : gx (arcs.map swap) i = ((gx arcs i).2, (gx arcs i).1) := by
  have h := gx_eq h0 h1
  have h2 := gx_eq (xs := arcs.map swap) h0 (by rw [List.length_map]; omega)
  rw [List.getElem?_map, h] at h2
  injection h2 with h2
  exact h2.symm
theorem rch_head {arcs : List (Int × Int)} {a b c : Int} (h : Rch arcs b c) (ha : (a, b) ∈ arcs) : Rch arcs a c := by
  induction h with
  | refl => exact .step .refl ha
  | step _ hb ih => exact .step ih hb
theorem rch_swap {arcs : List (Int × Int)} {a b : Int} (h : Rch arcs a b) : Rch (arcs.map swap) b a := by
  induction h with
  | refl => exact .refl
  | step _ hb ih => exact rch_head ih (List.mem_map.2 ⟨_, hb, rfl⟩)
theorem back_mem {N : Nat} {arcs : List (Int × Int)} {v x : Int} (h0 : 0 ≤ v) (h1 : v < N) (hx : x ∈ reach N arcs v) : v ∈ reach N (arcs.map swap) x :=
  mem_reach.2 ⟨h0, h1, rch_swap (mem_reach.1 hx).2.2⟩
theorem rdI_in {xs : List Int} {i : Int} (h0 : 0 ≤ i) (h1 : i < xs.length) : rdI xs i ∈ xs := by
  have h : i.toNat < xs.length := by omega
  unfold rdI
  rw [List.getD_eq_getElem?_getD, List.getElem?_eq_getElem h]
  exact List.getElem_mem h
theorem take_rd {xs : List Int} {i : Int} (h0 : 0 ≤ i) (h1 : i < xs.length) : xs.take (i + 1).toNat = xs.take i.toNat ++ [rdI xs i] := by
  have h : i.toNat < xs.length := by omega
  rw [show (i + 1).toNat = i.toNat + 1 by omega, List.take_succ_eq_append_getElem h]
  unfold rdI
  rw [List.getD_eq_getElem?_getD, List.getElem?_eq_getElem h]
  rfl
theorem arc_yes (g N : Nat) (arcs : List (Int × Int)) (W : World) (hG : GAt W g N arcs) (i : Int) (h0 : 0 ≤ i) (h1 : i < arcs.length) : Calls Try.prog 22 #[.pointer (some ⟨g, 0, none⟩), .int .i64 i] W fun e W' => e = .returned (.tuple #[.agg #[.int .i64 (gx arcs i).1, .int .i64 (gx arcs i).2], .bool true]) ∧ St W (owns []) W' [] :=
  (arc_some g N arcs W hG i).mono fun e W' h => h.elim (fun ⟨_, _, x⟩ => x) (fun ⟨hn, _⟩ => absurd ⟨h0, h1⟩ hn)
theorem ref_reach2 (N : Nat) (A : Option Addr) (c : Nat) (arcs : List (Int × Int)) (W : World) (hr : Rd W A (cf arcC arcs)) (hl : arcs.length ≤ 1048576) (v : Int) (hF : Fine N arcs) (hN : N ≤ 1048576) (h0 : 0 ≤ v) (h1 : v < N) : Calls Try.prog 28 #[.int .i64 (N : Int), .slice A arcs.length c, .int .i64 v] W fun e W' => ∃ A' c' bs, e = .returned (.slice A' bs.length c') ∧ St W (owns []) W' [row A' bs.length c' (ci .i64 bs) 3 1] ∧ bs.length = N ∧ ons bs.length bs = reach N arcs v := by
  refine (ref_reach N A c arcs W hr hl v hF hN h0 h1).mono ?_
  rintro e W' ⟨A', c', bs, he, hs, hR⟩
  have hb : bs.length = N := hR.1.len
  have ho := ons_reach hR hF
  rw [← hb] at he hs
  refine ⟨A', c', bs, he, hs, hb, ?_⟩
  rw [hb]
  exact ho

theorem R_sliceHn {P : Program} {a : Act} {W : World} {dst : Option Nat} {ty : TypeId} {ps : String} {af : Array Edge} {gd : Option (Nat × Bool)} (m : Nat) {t : TypeId} {x y : Operand} {A : Option Addr} {n c z e : Nat} {k : IntKind} {i : Int} (hm : i = m) (hx : a.eval x = .slice A n c) (hy : a.eval y = .int k i) (ht : P.underlying t = some (.slice e)) (hz : (P.info? e).map (·.size) = some z) (h0 : 0 ≤ i) (h1 : i ≤ c) :
    (execOp a.eval ⟨dst, .slice t x none (some y) none, ty, ps, af, gd⟩).run P W = .ok (.value (.slice A m c)) W := by
  subst hm
  exact R_sliceH (i := (m : Int)) hx hy ht hz h0 h1
theorem rd_blk {W : World} {g : Nat} {k : IntKind} {xs : List Int} {i : Int} (h : Rd W (some ⟨g, 0, none⟩) (ci k xs)) (h0 : 0 ≤ i) (h1 : i < xs.length) : W.cell? ⟨g, i.toNat, none⟩ = some (.int k (rdI xs i)) := by
  have e : (⟨g, 0, none⟩ : Addr).add i.toNat = ⟨g, i.toNat, none⟩ := by unfold Addr.add; simp; omega
  rw [← e]
  exact h.at_ (ci_rd h0 h1)
theorem in_step {N : Nat} {L bs bs' : List Int} {i : Int} (hL : ∀ x ∈ L, 0 ≤ x ∧ x < N) (hb : bs.length = N) (h0 : 0 ≤ i) (h1 : i < L.length) (hs : bs' = bs.set (rdI L i).toNat 1) (h : ∀ x ∈ L.take i.toNat, rdI bs x = 1) : ∀ x ∈ L.take (i + 1).toNat, rdI bs' x = 1 := by
  intro x hx
  have hi := hL _ (rdI_in h0 h1)
  have hx0 := hL _ (List.mem_of_mem_take hx)
  rw [hs, rdI_set hi.1 (by omega) hx0.1]
  split
  · rfl
  · rename_i hne
    rw [take_rd h0 h1] at hx
    rcases List.mem_append.1 hx with h9 | h9
    · exact h x h9
    · rw [List.mem_singleton] at h9; exact absurd h9 hne
theorem reach_in {N : Nat} {arcs : List (Int × Int)} {v : Int} : ∀ x ∈ reach N arcs v, 0 ≤ x ∧ x < N := fun x hx => ⟨(mem_reach.1 hx).1, (mem_reach.1 hx).2.1⟩
theorem reach_next {N : Nat} {arcs : List (Int × Int)} {v u w : Int} (hF : Fine N arcs) (hu : u ∈ reach N arcs v) (hw : w ∈ nexts arcs u) : w ∈ reach N arcs v := by
  have h := mem_nexts.1 hw
  have h2 := hF _ h
  exact mem_reach.2 ⟨h2.2.2.1, h2.2.2.2, .step (mem_reach.1 hu).2.2 h⟩
theorem reach_self {N : Nat} {arcs : List (Int × Int)} {v : Int} (h0 : 0 ≤ v) (h1 : v < N) : v ∈ reach N arcs v := mem_reach.2 ⟨h0, h1, .refl⟩
theorem one_in {v : Int} (h0 : 0 ≤ v) : ∀ N : Nat, ((List.range N).filter (fun w : Nat => decide ((w : Int) = v))).length = if v < N then 1 else 0
  | 0 => by rw [if_neg (by omega)]; rfl
  | N + 1 => by
    rw [List.range_succ, List.filter_append, List.length_append, one_in h0 N]
    by_cases h : (N : Int) = v
    · rw [if_neg (by omega), if_pos (by omega)]; simp [h]
    · by_cases h2 : v < N
      · rw [if_pos h2, if_pos (by omega)]; simp [h]
      · rw [if_neg h2, if_neg (by omega)]; simp [h]
theorem reach_zero {N : Nat} {arcs : List (Int × Int)} {v : Int} (h : arcs.length = 0) (h0 : 0 ≤ v) (h1 : v < N) : (reach N arcs v).length = 1 := by
  have ha : arcs = [] := List.eq_nil_of_length_eq_zero h
  subst ha
  unfold reach
  rw [List.length_map, ← (one_in h0 N).trans (if_pos h1)]
  congr 1
  apply List.filter_congr
  intro w _
  rw [decide_eq_decide]
  constructor
  · intro hR
    cases hR with
    | refl => rfl
    | step _ ha => exact nomatch ha
  · intro e; rw [e]; exact .refl
theorem rch_mono {as_ bs : List (Int × Int)} (h : ∀ a ∈ as_, a ∈ bs) {v w : Int} (hR : Rch as_ v w) : Rch bs v w := by
  induction hR with
  | refl => exact .refl
  | step _ ha ih => exact .step ih (h _ ha)
theorem reach_sub {N : Nat} {as_ bs : List (Int × Int)} (h : ∀ a ∈ as_, a ∈ bs) {v x : Int} (hx : x ∈ reach N as_ v) : x ∈ reach N bs v := by
  have h2 := mem_reach.1 hx
  exact mem_reach.2 ⟨h2.1, h2.2.1, rch_mono h h2.2.2⟩
theorem reach_fewer {N : Nat} {as_ bs : List (Int × Int)} (h : ∀ a ∈ as_, a ∈ bs) {v : Int} : (reach N as_ v).length ≤ (reach N bs v).length := by
  unfold reach
  rw [List.length_map, List.length_map, ← List.countP_eq_length_filter, ← List.countP_eq_length_filter]
  apply List.countP_mono_left
  intro w _ hw
  simp only [decide_eq_true_eq] at hw ⊢; exact rch_mono h hw
theorem rd_take {W : World} {A : Option Addr} {arcs : List (Int × Int)} {m : Nat} (h : Rd W A (cf arcC arcs)) : Rd W A (cf arcC (arcs.take m)) := by
  intro j u hu
  refine h j u ?_
  have e : cf arcC arcs = cf arcC (arcs.take m) ++ cf arcC (arcs.drop m) := by rw [← cf_app, List.take_append_drop]
  rw [e, List.getElem?_append_left (List.getElem?_eq_some_iff.1 hu).1]
  exact hu
theorem fine_take {N : Nat} {arcs : List (Int × Int)} (h : Fine N arcs) (m : Nat) : Fine N (arcs.take m) := fun a ha => h a (List.mem_of_mem_take ha)

set_option maxRecDepth 100000 in
set_option maxHeartbeats 1000000 in
theorem GraphReaches_walk (n v : Int) (A : Option Addr) (c : Nat) (arcs : List (Int × Int)) (W : World) (hr : Rd W A (cf arcC arcs)) (hcc : arcs.length ≤ c) : Calls Try.prog 3 #[.int .i64 n, .slice A arcs.length c, .int .i64 v] W fun e W' => e = .returned (.bool true) ∧ St W (owns []) W' [] := by
  have HS : St W (owns []) W [] := St.start W _
  refine calls_enter ((.int .i64 n) :: (.slice A arcs.length c) :: (.int .i64 v) :: undef :: undef :: undef :: undef :: undef :: undef :: undef :: undef :: undef :: undef :: undef :: undef :: undef :: undef :: undef :: undef :: undef :: undef :: undef :: undef :: undef :: undef :: undef :: undef :: undef :: undef :: undef :: undef :: undef :: undef :: undef :: undef :: undef :: undef :: undef :: undef :: undef :: undef :: undef :: undef :: undef :: undef :: undef :: undef :: undef :: undef :: undef :: undef :: undef :: undef :: undef :: undef :: undef :: undef :: undef :: undef :: undef :: undef :: undef :: undef :: undef :: undef :: undef :: undef :: undef :: undef :: undef :: undef :: undef :: undef :: undef :: undef :: undef :: undef :: undef :: undef :: undef :: undef :: undef :: undef :: undef :: undef :: undef :: undef :: undef :: undef :: undef :: undef :: undef :: undef :: undef :: undef :: undef :: undef :: undef :: undef :: undef :: undef :: undef :: undef :: undef :: undef :: undef :: undef :: undef :: undef :: undef :: undef :: undef :: undef :: undef :: undef :: undef :: undef :: undef :: undef :: undef :: undef :: undef :: undef :: undef :: undef :: undef :: undef :: undef :: undef :: undef :: undef :: undef :: undef :: undef :: undef :: undef :: undef :: undef :: undef :: undef :: undef :: undef :: undef :: undef :: undef :: undef :: undef :: undef :: undef :: undef :: undef :: undef :: undef :: undef :: undef :: undef :: undef :: []) Try.func3 rfl (by kernel_rfl) ?_
  refine wp_seq ?_
  refine wp_region_lit ?_
  refine ql (.bool false) (by kernel_rfl) (by kernel_rfl) ?_
  refine wpList_nil ?_
  refine x_then ?_
  refine wp_seq ?_
  refine wp_seq ?_
  refine wp_region_lit ?_
  refine ql (.slice A arcs.length c) (by kernel_rfl) (by kernel_rfl) ?_
  refine ql (.int .i64 (arcs.length : Int)) (by kernel_rfl) (by kernel_rfl) ?_
  by_cases hc1 : (arcs.length : Int) > (40 : Int)
  · skip
    refine ql (.bool true) (by kernel_rfl) (R_bool (p := (arcs.length : Int) > (40 : Int)) (by kernel_rfl) (hc1)) ?_
    refine ql (.bool true) (by kernel_rfl) (by kernel_rfl) ?_
    refine qln (by kernel_rfl) ?_
    refine qln (by kernel_rfl) ?_
    refine ql (.bool true) (by kernel_rfl) (by kernel_rfl) ?_
    refine wpList_nil ?_
    refine x_then ?_
    refine wp_cond_true (by kernel_rfl) ?_
    refine wp_seq ?_
    refine wp_region_lit ?_
    refine qc (f := 12) (args := #[]) (by kernel_rfl) (R_call #[] Try.func12 (by kernel_rfl) (by kernel_rfl) (by kernel_rfl)) ?_
    refine (awake_calls _).mono ?_
    rintro e W2 ⟨rfl, H_⟩
    refine ⟨_, rfl, ?_⟩
    replace HS : St W (owns []) W2 [] := HS.join (F := []) (G := []) H_
    clear H_
    refine ql (.bool true) (by kernel_rfl) (by kernel_rfl) ?_
    refine wpList_nil ?_
    refine x_then ?_
    refine wp_ret ?_
    refine x_thenR ?_
    refine ret_ (.bool true) (by kernel_rfl) ?_
    exact ⟨rfl, HS.tail (F := [])⟩
  · skip
    refine ql (.bool false) (by kernel_rfl) (R_nbool (p := (arcs.length : Int) > (40 : Int)) (by kernel_rfl) (hc1)) ?_
    refine ql (.bool false) (by kernel_rfl) (by kernel_rfl) ?_
    refine ql (.int .i64 n) (by kernel_rfl) (by kernel_rfl) ?_
    by_cases hc3 : n > (16 : Int)
    · skip
      refine ql (.bool true) (by kernel_rfl) (R_bool (p := n > (16 : Int)) (by kernel_rfl) (hc3)) ?_
      refine ql (.bool true) (by kernel_rfl) (by kernel_rfl) ?_
      refine wpList_nil ?_
      refine x_then ?_
      refine wp_cond_true (by kernel_rfl) ?_
      refine wp_seq ?_
      refine wp_region_lit ?_
      refine qc (f := 12) (args := #[]) (by kernel_rfl) (R_call #[] Try.func12 (by kernel_rfl) (by kernel_rfl) (by kernel_rfl)) ?_
      refine (awake_calls _).mono ?_
      rintro e W4 ⟨rfl, H_⟩
      refine ⟨_, rfl, ?_⟩
      replace HS : St W (owns []) W4 [] := HS.join (F := []) (G := []) H_
      clear H_
      refine ql (.bool true) (by kernel_rfl) (by kernel_rfl) ?_
      refine wpList_nil ?_
      refine x_then ?_
      refine wp_ret ?_
      refine x_thenR ?_
      refine ret_ (.bool true) (by kernel_rfl) ?_
      exact ⟨rfl, HS.tail (F := [])⟩
    · skip
      refine ql (.bool false) (by kernel_rfl) (R_nbool (p := n > (16 : Int)) (by kernel_rfl) (hc3)) ?_
      refine ql (.bool false) (by kernel_rfl) (by kernel_rfl) ?_
      refine wpList_nil ?_
      refine x_then ?_
      refine wp_cond_false (by kernel_rfl) ?_
      refine wp_skip ?_
      refine x_then ?_
      refine wp_seq ?_
      refine wp_region_lit ?_
      refine ql (.int .i64 n) (by kernel_rfl) (by kernel_rfl) ?_
      refine ql (.slice A arcs.length c) (by kernel_rfl) (by kernel_rfl) ?_
      refine qc (f := 13) (args := #[.int .i64 n, .slice A arcs.length c]) (by kernel_rfl) (R_call #[.int .i64 n, .slice A arcs.length c] Try.func13 (by kernel_rfl) (by kernel_rfl) (by kernel_rfl)) ?_
      refine (of_calls n _ _ arcs _ (hr.old0 HS) (by first | omega | (rw [List.length_map]; omega))).mono ?_
      rintro e W5 (⟨hc, g, N, rfl, rfl, H_, hG⟩ | ⟨hc, rfl, H_⟩)
      · refine ⟨_, rfl, ?_⟩
        replace HS : St W (owns []) W5 [] := HS.join (F := []) (G := []) H_
        clear H_
        have HB6 := HS
        replace hr := hr.below (HB6.kept.below owns_nil)
        clear HS
        have HS : St W5 (owns []) W5 [] := St.start _ _
        have hFF := hG.fine
        refine ql (.tuple #[.pointer (some ⟨g, 0, none⟩), .int .i64 0]) (by kernel_rfl) (by kernel_rfl) ?_
        refine ql (.pointer (some ⟨g, 0, none⟩)) (by kernel_rfl) (by kernel_rfl) ?_
        refine ql (.int .i64 0) (by kernel_rfl) (by kernel_rfl) ?_
        refine ql (.pointer (some ⟨g, 0, none⟩)) (by kernel_rfl) (by kernel_rfl) ?_
        refine ql (.int .i64 0) (by kernel_rfl) (by kernel_rfl) ?_
        refine wpList_nil ?_
        refine x_then ?_
        refine wp_seq ?_
        refine wp_seq ?_
        refine wp_region_lit ?_
        refine ql (.int .i64 0) (by kernel_rfl) (by kernel_rfl) ?_
        refine ql (.bool false) (by kernel_rfl) (R_beq (b := ((0 : Int) != 0)) (by kernel_rfl) (by decide)) ?_
        refine ql (.bool false) (by kernel_rfl) (by kernel_rfl) ?_
        refine ql (.int .i64 v) (by kernel_rfl) (by kernel_rfl) ?_
        by_cases hc7 : v < (0 : Int)
        · skip
          refine ql (.bool true) (by kernel_rfl) (R_bool (p := v < (0 : Int)) (by kernel_rfl) (hc7)) ?_
          refine ql (.bool true) (by kernel_rfl) (by kernel_rfl) ?_
          refine ql (.bool true) (by kernel_rfl) (by kernel_rfl) ?_
          refine qln (by kernel_rfl) ?_
          refine qln (by kernel_rfl) ?_
          refine qln (by kernel_rfl) ?_
          refine ql (.bool true) (by kernel_rfl) (by kernel_rfl) ?_
          refine wpList_nil ?_
          refine x_then ?_
          refine wp_cond_true (by kernel_rfl) ?_
          refine wp_seq ?_
          refine wp_region_lit ?_
          refine ql (.pointer (some ⟨g, 0, none⟩)) (by kernel_rfl) (by kernel_rfl) ?_
          refine ql (.int .i64 v) (by kernel_rfl) (by kernel_rfl) ?_
          refine qc (f := 14) (args := #[.pointer (some ⟨g, 0, none⟩), .int .i64 v]) (by kernel_rfl) (R_call #[.pointer (some ⟨g, 0, none⟩), .int .i64 v] Try.func14 (by kernel_rfl) (by kernel_rfl) (by kernel_rfl)) ?_
          refine (reach_no g N arcs _ (hG.below (HS.kept.below owns_nil)) v (by omega)).mono ?_
          rintro e W10 ⟨rfl, H_⟩
          refine ⟨_, rfl, ?_⟩
          replace HS : St W5 (owns []) W10 [] := HS.join (F := []) (G := []) H_
          clear H_
          refine ql (.int .i64 0) (by kernel_rfl) (by kernel_rfl) ?_
          refine ql (.bool true) (by kernel_rfl) (R_beq (b := ((0 : Int) == 0)) (by kernel_rfl) (by decide)) ?_
          refine ql (.bool true) (by kernel_rfl) (by kernel_rfl) ?_
          refine qc (f := 12) (args := #[]) (by kernel_rfl) (R_call #[] Try.func12 (by kernel_rfl) (by kernel_rfl) (by kernel_rfl)) ?_
          refine (awake_calls _).mono ?_
          rintro e W11 ⟨rfl, H_⟩
          refine ⟨_, rfl, ?_⟩
          replace HS : St W5 (owns []) W11 [] := HS.join (F := []) (G := []) H_
          clear H_
          refine ql (.bool true) (by kernel_rfl) (by kernel_rfl) ?_
          refine ql (.bool true) (by kernel_rfl) (by kernel_rfl) ?_
          refine wpList_nil ?_
          refine x_then ?_
          refine wp_ret ?_
          refine x_thenR ?_
          refine ret_ (.bool true) (by kernel_rfl) ?_
          replace HS : St W (owns []) W11 [] := HB6.join (F := []) (G := []) HS
          exact ⟨rfl, HS.tail (F := [])⟩
        · skip
          refine ql (.bool false) (by kernel_rfl) (R_nbool (p := v < (0 : Int)) (by kernel_rfl) (hc7)) ?_
          refine ql (.bool false) (by kernel_rfl) (by kernel_rfl) ?_
          refine ql (.bool false) (by kernel_rfl) (by kernel_rfl) ?_
          refine ql (.int .i64 v) (by kernel_rfl) (by kernel_rfl) ?_
          refine ql (.int .i64 (N : Int)) (by kernel_rfl) (by kernel_rfl) ?_
          by_cases hc12 : v ≥ (N : Int)
          · skip
            refine ql (.bool true) (by kernel_rfl) (R_bool (p := v ≥ (N : Int)) (by kernel_rfl) (hc12)) ?_
            refine ql (.bool true) (by kernel_rfl) (by kernel_rfl) ?_
            refine wpList_nil ?_
            refine x_then ?_
            refine wp_cond_true (by kernel_rfl) ?_
            refine wp_seq ?_
            refine wp_region_lit ?_
            refine ql (.pointer (some ⟨g, 0, none⟩)) (by kernel_rfl) (by kernel_rfl) ?_
            refine ql (.int .i64 v) (by kernel_rfl) (by kernel_rfl) ?_
            refine qc (f := 14) (args := #[.pointer (some ⟨g, 0, none⟩), .int .i64 v]) (by kernel_rfl) (R_call #[.pointer (some ⟨g, 0, none⟩), .int .i64 v] Try.func14 (by kernel_rfl) (by kernel_rfl) (by kernel_rfl)) ?_
            refine (reach_no g N arcs _ (hG.below (HS.kept.below owns_nil)) v (by omega)).mono ?_
            rintro e W15 ⟨rfl, H_⟩
            refine ⟨_, rfl, ?_⟩
            replace HS : St W5 (owns []) W15 [] := HS.join (F := []) (G := []) H_
            clear H_
            refine ql (.int .i64 0) (by kernel_rfl) (by kernel_rfl) ?_
            refine ql (.bool true) (by kernel_rfl) (R_beq (b := ((0 : Int) == 0)) (by kernel_rfl) (by decide)) ?_
            refine ql (.bool true) (by kernel_rfl) (by kernel_rfl) ?_
            refine qc (f := 12) (args := #[]) (by kernel_rfl) (R_call #[] Try.func12 (by kernel_rfl) (by kernel_rfl) (by kernel_rfl)) ?_
            refine (awake_calls _).mono ?_
            rintro e W16 ⟨rfl, H_⟩
            refine ⟨_, rfl, ?_⟩
            replace HS : St W5 (owns []) W16 [] := HS.join (F := []) (G := []) H_
            clear H_
            refine ql (.bool true) (by kernel_rfl) (by kernel_rfl) ?_
            refine ql (.bool true) (by kernel_rfl) (by kernel_rfl) ?_
            refine wpList_nil ?_
            refine x_then ?_
            refine wp_ret ?_
            refine x_thenR ?_
            refine ret_ (.bool true) (by kernel_rfl) ?_
            replace HS : St W (owns []) W16 [] := HB6.join (F := []) (G := []) HS
            exact ⟨rfl, HS.tail (F := [])⟩
          · skip
            refine ql (.bool false) (by kernel_rfl) (R_nbool (p := v ≥ (N : Int)) (by kernel_rfl) (hc12)) ?_
            refine ql (.bool false) (by kernel_rfl) (by kernel_rfl) ?_
            refine wpList_nil ?_
            refine x_then ?_
            refine wp_cond_false (by kernel_rfl) ?_
            refine wp_skip ?_
            refine x_then ?_
            refine wp_seq ?_
            have hrl := reach_le N arcs v
            refine wp_region_lit ?_
            refine ql (.int .i64 (N : Int)) (by kernel_rfl) (by kernel_rfl) ?_
            refine km HS (N) [.int .i64 0] 8 (by kernel_rfl) (k_eq (k := .i64) (m := (N : Int)) (by kernel_rfl) (by omega)) (k_eq (k := .i64) (m := (N : Int)) (by kernel_rfl) (by omega)) Try.underlying28 (by kernel_rfl) (by kernel_rfl) (by kernel_rfl) (by decide) (by omega) (by omega) ?_
            intro g17 W18 H_
            replace HS : St W5 (owns []) W18 [row (some ⟨g17, 0, none⟩) N N (ci .i64 (List.replicate (N) 0)) 3 1] := H_.cast_ (by rw [ci_rep]; rfl)
            clear H_
            have rlg17 : (List.replicate (N) (0 : Int)).length = N := List.length_replicate
            refine ql (.slice (some ⟨g17, 0, none⟩) N N) (by kernel_rfl) (by kernel_rfl) ?_
            refine wpList_nil ?_
            refine x_then ?_
            refine wp_seq ?_
            refine wp_region_lit ?_
            refine ql (.pointer (some ⟨g, 0, none⟩)) (by kernel_rfl) (by kernel_rfl) ?_
            refine ql (.int .i64 v) (by kernel_rfl) (by kernel_rfl) ?_
            refine qc (f := 14) (args := #[.pointer (some ⟨g, 0, none⟩), .int .i64 v]) (by kernel_rfl) (R_call #[.pointer (some ⟨g, 0, none⟩), .int .i64 v] Try.func14 (by kernel_rfl) (by kernel_rfl) (by kernel_rfl)) ?_
            refine (reach_yes g N arcs _ (hG.below (HS.kept.below owns_nil)) v (by omega) (by omega)).mono ?_
            rintro e W21 ⟨A19, c20, rfl, H_⟩
            refine ⟨_, rfl, ?_⟩
            replace HS : St W5 (owns []) W21 [row A19 ((reach N arcs v).length) c20 (ci .i64 (reach N arcs v)) 3 1, row (some ⟨g17, 0, none⟩) N N (ci .i64 (List.replicate (N) 0)) 3 1] := HS.join (F := []) (G := [row A19 ((reach N arcs v).length) c20 (ci .i64 (reach N arcs v)) 3 1]) H_
            clear H_
            refine ql (.slice A19 ((reach N arcs v).length) c20) (by kernel_rfl) (by kernel_rfl) ?_
            refine wpList_nil ?_
            refine x_then ?_
            refine wp_seq ?_
            refine wp_seq ?_
            refine wp_region_lit ?_
            refine ql (.int .i64 0) (by kernel_rfl) (by kernel_rfl) ?_
            refine wpList_nil ?_
            refine x_then ?_
            refine wp_block ?_
            refine wp_loop_ghost (fun kq a' w' => ∃ (j57 : Value) (j58 : Value) (j59 : Value) (j60 : Value) (j61 : Value) (j62 : Value) (j63 : Value) (j64 : Value) (j65 : Value) (j66 : Value) (j67 : Value) (j68 : Value) (i : Int) (bs : List Int) , a' = Fr ((.int .i64 (N : Int)) :: (.slice A arcs.length c) :: (.int .i64 v) :: undef :: undef :: undef :: (.bool false) :: (.pointer (some ⟨g, 0, none⟩)) :: (.int .i64 0) :: (.slice (some ⟨g17, 0, none⟩) N N) :: (.slice A19 ((reach N arcs v).length) c20) :: (.int .i64 i) :: undef :: undef :: undef :: undef :: undef :: undef :: undef :: (.slice A arcs.length c) :: (.int .i64 (arcs.length : Int)) :: (.bool false) :: (.bool false) :: (.int .i64 (N : Int)) :: (.bool false) :: (.bool false) :: undef :: (.tuple #[.pointer (some ⟨g, 0, none⟩), .int .i64 0]) :: (.int .i64 (N : Int)) :: (.slice A arcs.length c) :: (.tuple #[.pointer (some ⟨g, 0, none⟩), .int .i64 0]) :: (.pointer (some ⟨g, 0, none⟩)) :: (.int .i64 0) :: (.int .i64 0) :: (.bool false) :: (.bool false) :: (.int .i64 v) :: (.bool false) :: (.bool false) :: (.bool false) :: (.int .i64 v) :: (.int .i64 (N : Int)) :: (.bool false) :: (.bool false) :: undef :: undef :: undef :: undef :: undef :: undef :: undef :: undef :: (.int .i64 (N : Int)) :: (.slice (some ⟨g17, 0, none⟩) N N) :: (.pointer (some ⟨g, 0, none⟩)) :: (.int .i64 v) :: (.slice A19 ((reach N arcs v).length) c20) :: j57 :: j58 :: j59 :: j60 :: j61 :: j62 :: j63 :: j64 :: j65 :: j66 :: j67 :: j68 :: undef :: undef :: undef :: undef :: undef :: undef :: undef :: undef :: undef :: undef :: undef :: undef :: undef :: undef :: undef :: undef :: undef :: undef :: undef :: undef :: undef :: undef :: undef :: undef :: undef :: undef :: undef :: undef :: undef :: undef :: undef :: undef :: undef :: undef :: undef :: undef :: undef :: undef :: undef :: undef :: undef :: undef :: undef :: undef :: undef :: undef :: undef :: undef :: undef :: undef :: undef :: undef :: undef :: undef :: undef :: undef :: undef :: undef :: undef :: undef :: undef :: undef :: undef :: undef :: undef :: undef :: undef :: undef :: undef :: undef :: undef :: undef :: undef :: undef :: undef :: undef :: undef :: undef :: undef :: undef :: undef :: undef :: undef :: undef :: undef :: undef :: undef :: undef :: []) ∧ kq = ((reach N arcs v).length - (i).toNat) ∧ (0 ≤ i) ∧ (i ≤ (reach N arcs v).length) ∧ ((bs).length = N) ∧ (∀ x ∈ (reach N arcs v).take (i).toNat, rdI (bs) x = 1) ∧ St W5 (owns []) w' [row A19 ((reach N arcs v).length) c20 (ci .i64 (reach N arcs v)) 3 1, row (some ⟨g17, 0, none⟩) N N (ci .i64 bs) 3 1]) ((reach N arcs v).length - ((0 : Int)).toNat) ⟨(undef : Value), (undef : Value), (undef : Value), (undef : Value), (undef : Value), (undef : Value), (undef : Value), (undef : Value), (undef : Value), (undef : Value), (undef : Value), (undef : Value), (0 : Int), List.replicate (N) 0, congrArg Fr (by kernel_rfl), rfl, by omega, by omega, List.length_replicate, by intro x hx; simp at hx, HS⟩ ?_
            clear HS
            intro kq22 a' W23 hrel
            obtain ⟨j57, j58, j59, j60, j61, j62, j63, j64, j65, j66, j67, j68, i, bs, rfl, hk, i0, i1, hb, hM, HS⟩ := hrel
            refine wp_seq ?_
            refine wp_seq ?_
            refine wp_region_lit ?_
            refine ql (.int .i64 i) (by kernel_rfl) (by kernel_rfl) ?_
            refine ql (.slice A19 ((reach N arcs v).length) c20) (by kernel_rfl) (by kernel_rfl) ?_
            refine ql (.int .i64 ((reach N arcs v).length : Int)) (by kernel_rfl) (by kernel_rfl) ?_
            by_cases hc24 : i < ((reach N arcs v).length : Int)
            · skip
              refine ql (.bool true) (by kernel_rfl) (R_bool (p := i < ((reach N arcs v).length : Int)) (by kernel_rfl) (hc24)) ?_
              refine wpList_nil ?_
              refine x_then ?_
              refine wp_cond_true (by kernel_rfl) ?_
              refine wp_skip ?_
              refine x_then ?_
              refine wp_seq ?_
              refine wp_block ?_
              have hx := reach_in _ (rdI_in (xs := reach N arcs v) i0 (by omega))
              refine wp_region_lit ?_
              refine ql (.slice (some ⟨g17, 0, none⟩) N N) (by kernel_rfl) (by kernel_rfl) ?_
              refine ql (.slice A19 ((reach N arcs v).length) c20) (by kernel_rfl) (by kernel_rfl) ?_
              refine ql (.int .i64 i) (by kernel_rfl) (by kernel_rfl) ?_
              obtain ⟨g25, rfl⟩ := St.rsome HS (i := 0) rfl (by omega)
              refine ql (.pointer (some ⟨g25, i.toNat, none⟩)) (by kernel_rfl) (R_index1 (k := .i64) (g := g25) (n := ((reach N arcs v).length)) (c := c20) (i := i) (by kernel_rfl) (by kernel_rfl) Try.underlying28 (by kernel_rfl) (by omega) (by omega)) ?_
              refine ql (.int .i64 (rdI (reach N arcs v) i)) (by kernel_rfl) (R_load (p := ⟨g25, i.toNat, none⟩) (by kernel_rfl) (by kernel_rfl) (by kernel_rfl) (HS.rcell (i := 0) rfl (ci_rd (by omega) (by omega)))) ?_
              refine ql (.pointer (some ⟨g17, (rdI (reach N arcs v) i).toNat, none⟩)) (by kernel_rfl) (R_index1 (k := .i64) (g := g17) (n := N) (c := N) (i := rdI (reach N arcs v) i) (by kernel_rfl) (by kernel_rfl) Try.underlying28 (by kernel_rfl) (by omega) (by omega)) ?_
              refine kr (v := .int .i64 1) HS 1 rfl ((rdI (reach N arcs v) i).toNat) [.int .i64 1] (by kernel_rfl) (by kernel_rfl) (by kernel_rfl) (by kernel_rfl) (by kernel_rfl) (one_ (by kernel_rfl)) (by rw [ci_len]; first | omega | (simp only [List.length_singleton]; omega)) rfl ?_
              intro W26 H_
              obtain ⟨xs27, xs27_⟩ : ∃ z_ : List Int, z_ = (bs).set (rdI (reach N arcs v) i).toNat 1 := ⟨_, rfl⟩
              replace HS : St W5 (owns []) W26 [row (some ⟨g25, 0, none⟩) ((reach N arcs v).length) c20 (ci .i64 (reach N arcs v)) 3 1, row (some ⟨g17, 0, none⟩) N N (ci .i64 xs27) 3 1] := H_.cast_ (by rw [xs27_, ← ci_set]; rfl)
              clear H_
              have xs27l : xs27.length = N := by rw [xs27_, List.length_set]; omega
              refine wpList_nil ?_
              refine x_inb ?_
              refine x_then ?_
              refine wp_region_lit ?_
              refine ql (.int .i64 i) (by kernel_rfl) (by kernel_rfl) ?_
              refine ql (.int .i64 (i + 1)) (by kernel_rfl) (R_int (by kernel_rfl) (w64 (by omega))) ?_
              refine ql (.int .i64 (i + 1)) (by kernel_rfl) (by kernel_rfl) ?_
              refine wpList_nil ?_
              refine x_then ?_
              exact ⟨(reach N arcs v).length - (i + 1).toNat, by omega, (.int .i64 i : Value), (.slice (some ⟨g25, 0, none⟩) ((reach N arcs v).length) c20 : Value), (.int .i64 ((reach N arcs v).length : Int) : Value), (.bool true : Value), (.int .i64 i : Value), (.int .i64 (i + 1) : Value), (.slice (some ⟨g17, 0, none⟩) N N : Value), (.slice (some ⟨g25, 0, none⟩) ((reach N arcs v).length) c20 : Value), (.int .i64 i : Value), (.pointer (some ⟨g25, i.toNat, none⟩) : Value), (.int .i64 (rdI (reach N arcs v) i) : Value), (.pointer (some ⟨g17, (rdI (reach N arcs v) i).toNat, none⟩) : Value), i + 1, xs27, congrArg Fr (by kernel_rfl), rfl, by omega, by omega, by rw [xs27_, List.length_set]; exact hb, in_step reach_in hb i0 (by omega) xs27_ hM, HS⟩
            · skip
              refine ql (.bool false) (by kernel_rfl) (R_nbool (p := i < ((reach N arcs v).length : Int)) (by kernel_rfl) (hc24)) ?_
              refine wpList_nil ?_
              refine x_then ?_
              refine wp_cond_false (by kernel_rfl) ?_
              refine wp_exit ?_
              refine x_thenE ?_
              refine x_thenE ?_
              refine x_hit ?_
              refine x_then ?_
              refine wp_seq ?_
              refine wp_seq ?_
              have hall : ∀ x ∈ reach N arcs v, rdI bs x = 1 := by rw [List.take_of_length_le (by omega)] at hM; exact hM
              have HB28 := HS
              replace hr := hr.below (HB28.kept.below owns_nil)
              replace hG := hG.below (HB28.kept.below owns_nil)
              have hr29 := Rd.row HB28 (i := 0) rfl
              have hr30 := Rd.row HB28 (i := 1) rfl
              clear HS
              have HS : St W23 (owns []) W23 [] := St.start _ _
              refine wp_region_lit ?_
              refine ql (.int .i64 0) (by kernel_rfl) (by kernel_rfl) ?_
              refine wpList_nil ?_
              refine x_then ?_
              refine wp_block ?_
              refine wp_loop_ghost (fun kq a' w' => ∃ (j6 : Value) (j13 : Value) (j14 : Value) (j69 : Value) (j70 : Value) (j71 : Value) (j72 : Value) (j73 : Value) (j74 : Value) (j75 : Value) (j76 : Value) (j77 : Value) (j78 : Value) (j79 : Value) (j80 : Value) (j81 : Value) (j82 : Value) (j83 : Value) (j84 : Value) (j85 : Value) (j86 : Value) (j87 : Value) (j88 : Value) (j89 : Value) (j90 : Value) (j91 : Value) (j92 : Value) (j93 : Value) (j94 : Value) (p : Int) , a' = Fr ((.int .i64 (N : Int)) :: (.slice A arcs.length c) :: (.int .i64 v) :: undef :: undef :: undef :: j6 :: (.pointer (some ⟨g, 0, none⟩)) :: (.int .i64 0) :: (.slice (some ⟨g17, 0, none⟩) N N) :: (.slice A19 ((reach N arcs v).length) c20) :: (.int .i64 i) :: (.int .i64 p) :: j13 :: j14 :: undef :: undef :: undef :: undef :: (.slice A arcs.length c) :: (.int .i64 (arcs.length : Int)) :: (.bool false) :: (.bool false) :: (.int .i64 (N : Int)) :: (.bool false) :: (.bool false) :: undef :: (.tuple #[.pointer (some ⟨g, 0, none⟩), .int .i64 0]) :: (.int .i64 (N : Int)) :: (.slice A arcs.length c) :: (.tuple #[.pointer (some ⟨g, 0, none⟩), .int .i64 0]) :: (.pointer (some ⟨g, 0, none⟩)) :: (.int .i64 0) :: (.int .i64 0) :: (.bool false) :: (.bool false) :: (.int .i64 v) :: (.bool false) :: (.bool false) :: (.bool false) :: (.int .i64 v) :: (.int .i64 (N : Int)) :: (.bool false) :: (.bool false) :: undef :: undef :: undef :: undef :: undef :: undef :: undef :: undef :: (.int .i64 (N : Int)) :: (.slice (some ⟨g17, 0, none⟩) N N) :: (.pointer (some ⟨g, 0, none⟩)) :: (.int .i64 v) :: (.slice A19 ((reach N arcs v).length) c20) :: (.int .i64 i) :: (.slice A19 ((reach N arcs v).length) c20) :: (.int .i64 ((reach N arcs v).length : Int)) :: (.bool false) :: j61 :: j62 :: j63 :: j64 :: j65 :: j66 :: j67 :: j68 :: j69 :: j70 :: j71 :: j72 :: j73 :: j74 :: j75 :: j76 :: j77 :: j78 :: j79 :: j80 :: j81 :: j82 :: j83 :: j84 :: j85 :: j86 :: j87 :: j88 :: j89 :: j90 :: j91 :: j92 :: j93 :: j94 :: undef :: undef :: undef :: undef :: undef :: undef :: undef :: undef :: undef :: undef :: undef :: undef :: undef :: undef :: undef :: undef :: undef :: undef :: undef :: undef :: undef :: undef :: undef :: undef :: undef :: undef :: undef :: undef :: undef :: undef :: undef :: undef :: undef :: undef :: undef :: undef :: undef :: undef :: undef :: undef :: undef :: undef :: undef :: undef :: undef :: undef :: undef :: undef :: undef :: undef :: undef :: undef :: undef :: undef :: undef :: undef :: undef :: undef :: undef :: undef :: undef :: undef :: []) ∧ kq = ((reach N arcs v).length - (p).toNat) ∧ (0 ≤ p) ∧ (p ≤ (reach N arcs v).length) ∧ St W23 (owns []) w' []) ((reach N arcs v).length - ((0 : Int)).toNat) ⟨(.bool false : Value), (undef : Value), (undef : Value), (undef : Value), (undef : Value), (undef : Value), (undef : Value), (undef : Value), (undef : Value), (undef : Value), (undef : Value), (undef : Value), (undef : Value), (undef : Value), (undef : Value), (undef : Value), (undef : Value), (undef : Value), (undef : Value), (undef : Value), (undef : Value), (undef : Value), (undef : Value), (undef : Value), (undef : Value), (undef : Value), (undef : Value), (undef : Value), (undef : Value), (0 : Int), congrArg Fr (by kernel_rfl), rfl, by omega, by omega, HS⟩ ?_
              clear HS
              intro kq31 a' W32 hrel
              obtain ⟨j6, j13, j14, j69, j70, j71, j72, j73, j74, j75, j76, j77, j78, j79, j80, j81, j82, j83, j84, j85, j86, j87, j88, j89, j90, j91, j92, j93, j94, p, rfl, hk, p0, p1, HS⟩ := hrel
              refine wp_seq ?_
              refine wp_seq ?_
              refine wp_region_lit ?_
              refine ql (.int .i64 p) (by kernel_rfl) (by kernel_rfl) ?_
              refine ql (.slice A19 ((reach N arcs v).length) c20) (by kernel_rfl) (by kernel_rfl) ?_
              refine ql (.int .i64 ((reach N arcs v).length : Int)) (by kernel_rfl) (by kernel_rfl) ?_
              by_cases hc33 : p < ((reach N arcs v).length : Int)
              · skip
                refine ql (.bool true) (by kernel_rfl) (R_bool (p := p < ((reach N arcs v).length : Int)) (by kernel_rfl) (hc33)) ?_
                refine wpList_nil ?_
                refine x_then ?_
                refine wp_cond_true (by kernel_rfl) ?_
                refine wp_skip ?_
                refine x_then ?_
                refine wp_seq ?_
                refine wp_block ?_
                refine wp_seq ?_
                have hx := rdI_in (xs := reach N arcs v) p0 (by omega)
                have hxr := reach_in _ hx
                have hnl := idxs_le false arcs (rdI (reach N arcs v) p)
                rw [← nexts_len] at hnl
                refine wp_region_lit ?_
                refine ql (.pointer (some ⟨g, 0, none⟩)) (by kernel_rfl) (by kernel_rfl) ?_
                refine ql (.slice A19 ((reach N arcs v).length) c20) (by kernel_rfl) (by kernel_rfl) ?_
                refine ql (.int .i64 p) (by kernel_rfl) (by kernel_rfl) ?_
                obtain ⟨ad34, rfl⟩ := Rd.isSome_ hr29 (by rw [ci_len]; omega)
                refine ql (.pointer (some (ad34.add p.toNat))) (by kernel_rfl) (R_indexA1 (k := .i64) (p := ad34) (n := ((reach N arcs v).length)) (c := c20) (i := p) (by kernel_rfl) (by kernel_rfl) Try.underlying28 (by kernel_rfl) (by omega) (by omega)) ?_
                refine ql (.int .i64 (rdI (reach N arcs v) p)) (by kernel_rfl) (R_load (p := ad34.add p.toNat) (by kernel_rfl) (by kernel_rfl) (by kernel_rfl) (HS.old0 (hr29.at_ (ci_rd (by omega) (by omega))))) ?_
                refine qc (f := 15) (args := #[.pointer (some ⟨g, 0, none⟩), .int .i64 (rdI (reach N arcs v) p)]) (by kernel_rfl) (R_call #[.pointer (some ⟨g, 0, none⟩), .int .i64 (rdI (reach N arcs v) p)] Try.func15 (by kernel_rfl) (by kernel_rfl) (by kernel_rfl)) ?_
                refine (next_yes g N arcs _ (hG.below (HS.kept.below owns_nil)) (rdI (reach N arcs v) p) (by omega) (by omega)).mono ?_
                rintro e W37 ⟨A35, c36, rfl, H_⟩
                refine ⟨_, rfl, ?_⟩
                replace HS : St W23 (owns []) W37 [row A35 ((nexts arcs (rdI (reach N arcs v) p)).length) c36 (ci .i64 (nexts arcs (rdI (reach N arcs v) p))) 3 1] := HS.join (F := []) (G := [row A35 ((nexts arcs (rdI (reach N arcs v) p)).length) c36 (ci .i64 (nexts arcs (rdI (reach N arcs v) p))) 3 1]) H_
                clear H_
                refine ql (.slice A35 ((nexts arcs (rdI (reach N arcs v) p)).length) c36) (by kernel_rfl) (by kernel_rfl) ?_
                refine wpList_nil ?_
                refine x_then ?_
                refine wp_seq ?_
                refine wp_region_lit ?_
                refine ql (.int .i64 0) (by kernel_rfl) (by kernel_rfl) ?_
                refine wpList_nil ?_
                refine x_then ?_
                refine wp_block ?_
                refine wp_loop_ghost (fun kq a' w' => ∃ (j6 : Value) (j81 : Value) (j82 : Value) (j83 : Value) (j84 : Value) (j85 : Value) (j86 : Value) (j87 : Value) (j88 : Value) (j89 : Value) (j90 : Value) (j91 : Value) (j92 : Value) (j93 : Value) (j94 : Value) (k : Int) , a' = Fr ((.int .i64 (N : Int)) :: (.slice A arcs.length c) :: (.int .i64 v) :: undef :: undef :: undef :: j6 :: (.pointer (some ⟨g, 0, none⟩)) :: (.int .i64 0) :: (.slice (some ⟨g17, 0, none⟩) N N) :: (.slice (some ad34) ((reach N arcs v).length) c20) :: (.int .i64 i) :: (.int .i64 p) :: (.slice A35 ((nexts arcs (rdI (reach N arcs v) p)).length) c36) :: (.int .i64 k) :: undef :: undef :: undef :: undef :: (.slice A arcs.length c) :: (.int .i64 (arcs.length : Int)) :: (.bool false) :: (.bool false) :: (.int .i64 (N : Int)) :: (.bool false) :: (.bool false) :: undef :: (.tuple #[.pointer (some ⟨g, 0, none⟩), .int .i64 0]) :: (.int .i64 (N : Int)) :: (.slice A arcs.length c) :: (.tuple #[.pointer (some ⟨g, 0, none⟩), .int .i64 0]) :: (.pointer (some ⟨g, 0, none⟩)) :: (.int .i64 0) :: (.int .i64 0) :: (.bool false) :: (.bool false) :: (.int .i64 v) :: (.bool false) :: (.bool false) :: (.bool false) :: (.int .i64 v) :: (.int .i64 (N : Int)) :: (.bool false) :: (.bool false) :: undef :: undef :: undef :: undef :: undef :: undef :: undef :: undef :: (.int .i64 (N : Int)) :: (.slice (some ⟨g17, 0, none⟩) N N) :: (.pointer (some ⟨g, 0, none⟩)) :: (.int .i64 v) :: (.slice (some ad34) ((reach N arcs v).length) c20) :: (.int .i64 i) :: (.slice (some ad34) ((reach N arcs v).length) c20) :: (.int .i64 ((reach N arcs v).length : Int)) :: (.bool false) :: j61 :: j62 :: j63 :: j64 :: j65 :: j66 :: j67 :: j68 :: (.int .i64 p) :: (.slice (some ad34) ((reach N arcs v).length) c20) :: (.int .i64 ((reach N arcs v).length : Int)) :: (.bool true) :: j73 :: j74 :: (.pointer (some ⟨g, 0, none⟩)) :: (.slice (some ad34) ((reach N arcs v).length) c20) :: (.int .i64 p) :: (.pointer (some (ad34.add p.toNat))) :: (.int .i64 (rdI (reach N arcs v) p)) :: (.slice A35 ((nexts arcs (rdI (reach N arcs v) p)).length) c36) :: j81 :: j82 :: j83 :: j84 :: j85 :: j86 :: j87 :: j88 :: j89 :: j90 :: j91 :: j92 :: j93 :: j94 :: undef :: undef :: undef :: undef :: undef :: undef :: undef :: undef :: undef :: undef :: undef :: undef :: undef :: undef :: undef :: undef :: undef :: undef :: undef :: undef :: undef :: undef :: undef :: undef :: undef :: undef :: undef :: undef :: undef :: undef :: undef :: undef :: undef :: undef :: undef :: undef :: undef :: undef :: undef :: undef :: undef :: undef :: undef :: undef :: undef :: undef :: undef :: undef :: undef :: undef :: undef :: undef :: undef :: undef :: undef :: undef :: undef :: undef :: undef :: undef :: undef :: undef :: []) ∧ kq = ((nexts arcs (rdI (reach N arcs v) p)).length - (k).toNat) ∧ (0 ≤ k) ∧ (k ≤ (nexts arcs (rdI (reach N arcs v) p)).length) ∧ St W23 (owns []) w' [row A35 ((nexts arcs (rdI (reach N arcs v) p)).length) c36 (ci .i64 (nexts arcs (rdI (reach N arcs v) p))) 3 1]) ((nexts arcs (rdI (reach N arcs v) p)).length - ((0 : Int)).toNat) ⟨(j6 : Value), (j81 : Value), (j82 : Value), (j83 : Value), (j84 : Value), (j85 : Value), (j86 : Value), (j87 : Value), (j88 : Value), (j89 : Value), (j90 : Value), (j91 : Value), (j92 : Value), (j93 : Value), (j94 : Value), (0 : Int), congrArg Fr (by kernel_rfl), rfl, by omega, by omega, HS⟩ ?_
                clear HS
                intro kq38 a' W39 hrel
                obtain ⟨j6, j81, j82, j83, j84, j85, j86, j87, j88, j89, j90, j91, j92, j93, j94, k, rfl, hk, k0, k1, HS⟩ := hrel
                refine wp_seq ?_
                refine wp_seq ?_
                refine wp_region_lit ?_
                refine ql (.int .i64 k) (by kernel_rfl) (by kernel_rfl) ?_
                refine ql (.slice A35 ((nexts arcs (rdI (reach N arcs v) p)).length) c36) (by kernel_rfl) (by kernel_rfl) ?_
                refine ql (.int .i64 ((nexts arcs (rdI (reach N arcs v) p)).length : Int)) (by kernel_rfl) (by kernel_rfl) ?_
                by_cases hc40 : k < ((nexts arcs (rdI (reach N arcs v) p)).length : Int)
                · skip
                  refine ql (.bool true) (by kernel_rfl) (R_bool (p := k < ((nexts arcs (rdI (reach N arcs v) p)).length : Int)) (by kernel_rfl) (hc40)) ?_
                  refine wpList_nil ?_
                  refine x_then ?_
                  refine wp_cond_true (by kernel_rfl) ?_
                  refine wp_skip ?_
                  refine x_then ?_
                  refine wp_seq ?_
                  refine wp_block ?_
                  refine wp_seq ?_
                  have hy := reach_next hFF hx (rdI_in (xs := nexts arcs (rdI (reach N arcs v) p)) k0 (by omega))
                  have hyr := reach_in _ hy
                  have hy1 := hall _ hy
                  refine wp_region_lit ?_
                  refine ql (.slice (some ⟨g17, 0, none⟩) N N) (by kernel_rfl) (by kernel_rfl) ?_
                  refine ql (.slice A35 ((nexts arcs (rdI (reach N arcs v) p)).length) c36) (by kernel_rfl) (by kernel_rfl) ?_
                  refine ql (.int .i64 k) (by kernel_rfl) (by kernel_rfl) ?_
                  obtain ⟨g41, rfl⟩ := St.rsome HS (i := 0) rfl (by omega)
                  refine ql (.pointer (some ⟨g41, k.toNat, none⟩)) (by kernel_rfl) (R_index1 (k := .i64) (g := g41) (n := ((nexts arcs (rdI (reach N arcs v) p)).length)) (c := c36) (i := k) (by kernel_rfl) (by kernel_rfl) Try.underlying28 (by kernel_rfl) (by omega) (by omega)) ?_
                  refine ql (.int .i64 (rdI (nexts arcs (rdI (reach N arcs v) p)) k)) (by kernel_rfl) (R_load (p := ⟨g41, k.toNat, none⟩) (by kernel_rfl) (by kernel_rfl) (by kernel_rfl) (HS.rcell (i := 0) rfl (ci_rd (by omega) (by omega)))) ?_
                  refine ql (.pointer (some ⟨g17, (rdI (nexts arcs (rdI (reach N arcs v) p)) k).toNat, none⟩)) (by kernel_rfl) (R_index1 (k := .i64) (g := g17) (n := N) (c := N) (i := rdI (nexts arcs (rdI (reach N arcs v) p)) k) (by kernel_rfl) (by kernel_rfl) Try.underlying28 (by kernel_rfl) (by omega) (by omega)) ?_
                  refine ql (.int .i64 (rdI bs (rdI (nexts arcs (rdI (reach N arcs v) p)) k))) (by kernel_rfl) (R_load (p := ⟨g17, (rdI (nexts arcs (rdI (reach N arcs v) p)) k).toNat, none⟩) (by kernel_rfl) (by kernel_rfl) (by kernel_rfl) (HS.old0 (rd_blk hr30 (by omega) (by omega)))) ?_
                  refine ql (.bool false) (by kernel_rfl) (R_beq (b := (rdI bs (rdI (nexts arcs (rdI (reach N arcs v) p)) k) == (0 : Int))) (by kernel_rfl) (beq_f (by omega))) ?_
                  refine wpList_nil ?_
                  refine x_then ?_
                  refine wp_cond_false (by kernel_rfl) ?_
                  refine wp_skip ?_
                  refine x_inb ?_
                  refine x_then ?_
                  refine wp_region_lit ?_
                  refine ql (.int .i64 k) (by kernel_rfl) (by kernel_rfl) ?_
                  refine ql (.int .i64 (k + 1)) (by kernel_rfl) (R_int (by kernel_rfl) (w64 (by omega))) ?_
                  refine ql (.int .i64 (k + 1)) (by kernel_rfl) (by kernel_rfl) ?_
                  refine wpList_nil ?_
                  refine x_then ?_
                  exact ⟨(nexts arcs (rdI (reach N arcs v) p)).length - (k + 1).toNat, by omega, (j6 : Value), (.int .i64 k : Value), (.slice (some ⟨g41, 0, none⟩) ((nexts arcs (rdI (reach N arcs v) p)).length) c36 : Value), (.int .i64 ((nexts arcs (rdI (reach N arcs v) p)).length : Int) : Value), (.bool true : Value), (.int .i64 k : Value), (.int .i64 (k + 1) : Value), (.slice (some ⟨g17, 0, none⟩) N N : Value), (.slice (some ⟨g41, 0, none⟩) ((nexts arcs (rdI (reach N arcs v) p)).length) c36 : Value), (.int .i64 k : Value), (.pointer (some ⟨g41, k.toNat, none⟩) : Value), (.int .i64 (rdI (nexts arcs (rdI (reach N arcs v) p)) k) : Value), (.pointer (some ⟨g17, (rdI (nexts arcs (rdI (reach N arcs v) p)) k).toNat, none⟩) : Value), (.int .i64 (rdI bs (rdI (nexts arcs (rdI (reach N arcs v) p)) k)) : Value), (.bool false : Value), k + 1, congrArg Fr (by kernel_rfl), rfl, by omega, by omega, HS⟩
                · skip
                  refine ql (.bool false) (by kernel_rfl) (R_nbool (p := k < ((nexts arcs (rdI (reach N arcs v) p)).length : Int)) (by kernel_rfl) (hc40)) ?_
                  refine wpList_nil ?_
                  refine x_then ?_
                  refine wp_cond_false (by kernel_rfl) ?_
                  refine wp_exit ?_
                  refine x_thenE ?_
                  refine x_thenE ?_
                  refine x_hit ?_
                  refine x_inb ?_
                  refine x_then ?_
                  refine wp_region_lit ?_
                  refine ql (.int .i64 p) (by kernel_rfl) (by kernel_rfl) ?_
                  refine ql (.int .i64 (p + 1)) (by kernel_rfl) (R_int (by kernel_rfl) (w64 (by omega))) ?_
                  refine ql (.int .i64 (p + 1)) (by kernel_rfl) (by kernel_rfl) ?_
                  refine wpList_nil ?_
                  replace HS := HS.drop1
                  refine x_then ?_
                  exact ⟨(reach N arcs v).length - (p + 1).toNat, by omega, (j6 : Value), (.slice A35 ((nexts arcs (rdI (reach N arcs v) p)).length) c36 : Value), (.int .i64 k : Value), (.int .i64 p : Value), (.slice (some ad34) ((reach N arcs v).length) c20 : Value), (.int .i64 ((reach N arcs v).length : Int) : Value), (.bool true : Value), (.int .i64 p : Value), (.int .i64 (p + 1) : Value), (.pointer (some ⟨g, 0, none⟩) : Value), (.slice (some ad34) ((reach N arcs v).length) c20 : Value), (.int .i64 p : Value), (.pointer (some (ad34.add p.toNat)) : Value), (.int .i64 (rdI (reach N arcs v) p) : Value), (.slice A35 ((nexts arcs (rdI (reach N arcs v) p)).length) c36 : Value), (.int .i64 k : Value), (.slice A35 ((nexts arcs (rdI (reach N arcs v) p)).length) c36 : Value), (.int .i64 ((nexts arcs (rdI (reach N arcs v) p)).length : Int) : Value), (.bool false : Value), (j85 : Value), (j86 : Value), (j87 : Value), (j88 : Value), (j89 : Value), (j90 : Value), (j91 : Value), (j92 : Value), (j93 : Value), (j94 : Value), p + 1, congrArg Fr (by kernel_rfl), rfl, by omega, by omega, HS⟩
              · skip
                refine ql (.bool false) (by kernel_rfl) (R_nbool (p := p < ((reach N arcs v).length : Int)) (by kernel_rfl) (hc33)) ?_
                refine wpList_nil ?_
                refine x_then ?_
                refine wp_cond_false (by kernel_rfl) ?_
                refine wp_exit ?_
                refine x_thenE ?_
                refine x_thenE ?_
                refine x_hit ?_
                refine x_then ?_
                refine wp_seq ?_
                refine wp_seq ?_
                have hv1 := hall v (reach_self (by omega) (by omega))
                refine wp_region_lit ?_
                refine ql (.slice (some ⟨g17, 0, none⟩) N N) (by kernel_rfl) (by kernel_rfl) ?_
                refine ql (.int .i64 v) (by kernel_rfl) (by kernel_rfl) ?_
                refine ql (.pointer (some ⟨g17, v.toNat, none⟩)) (by kernel_rfl) (R_index1 (k := .i64) (g := g17) (n := N) (c := N) (i := v) (by kernel_rfl) (by kernel_rfl) Try.underlying28 (by kernel_rfl) (by omega) (by omega)) ?_
                refine ql (.int .i64 (rdI bs v)) (by kernel_rfl) (R_load (p := ⟨g17, v.toNat, none⟩) (by kernel_rfl) (by kernel_rfl) (by kernel_rfl) (HS.old0 (rd_blk hr30 (by omega) (by omega)))) ?_
                refine ql (.bool false) (by kernel_rfl) (R_beq (b := (rdI bs v == (0 : Int))) (by kernel_rfl) (beq_f (by omega))) ?_
                refine ql (.bool false) (by kernel_rfl) (by kernel_rfl) ?_
                refine ql (.slice A arcs.length c) (by kernel_rfl) (by kernel_rfl) ?_
                refine ql (.int .i64 (arcs.length : Int)) (by kernel_rfl) (by kernel_rfl) ?_
                by_cases hc42 : (arcs.length : Int) = (0 : Int)
                · skip
                  refine ql (.bool true) (by kernel_rfl) (R_beq (b := ((arcs.length : Int) == (0 : Int))) (by kernel_rfl) (beq_t (hc42))) ?_
                  refine ql (.bool true) (by kernel_rfl) (by kernel_rfl) ?_
                  refine wpList_nil ?_
                  refine x_then ?_
                  refine wp_cond_true (by kernel_rfl) ?_
                  refine wp_seq ?_
                  have hl1 := reach_zero (N := N) (arcs := arcs) (v := v) (by omega) (by omega) (by omega)
                  refine wp_region_lit ?_
                  refine ql (.slice (some ⟨g17, 0, none⟩) N N) (by kernel_rfl) (by kernel_rfl) ?_
                  refine ql (.int .i64 v) (by kernel_rfl) (by kernel_rfl) ?_
                  refine ql (.pointer (some ⟨g17, v.toNat, none⟩)) (by kernel_rfl) (R_index1 (k := .i64) (g := g17) (n := N) (c := N) (i := v) (by kernel_rfl) (by kernel_rfl) Try.underlying28 (by kernel_rfl) (by omega) (by omega)) ?_
                  refine ql (.int .i64 (rdI bs v)) (by kernel_rfl) (R_load (p := ⟨g17, v.toNat, none⟩) (by kernel_rfl) (by kernel_rfl) (by kernel_rfl) (HS.old0 (rd_blk hr30 (by omega) (by omega)))) ?_
                  refine ql (.bool true) (by kernel_rfl) (R_beq (b := (rdI bs v == (1 : Int))) (by kernel_rfl) (beq_t (by omega))) ?_
                  refine ql (.bool true) (by kernel_rfl) (by kernel_rfl) ?_
                  refine ql (.slice A19 ((reach N arcs v).length) c20) (by kernel_rfl) (by kernel_rfl) ?_
                  refine ql (.int .i64 ((reach N arcs v).length : Int)) (by kernel_rfl) (by kernel_rfl) ?_
                  refine ql (.bool true) (by kernel_rfl) (R_beq (b := (((reach N arcs v).length : Int) == (1 : Int))) (by kernel_rfl) (beq_t (by omega))) ?_
                  refine ql (.bool true) (by kernel_rfl) (by kernel_rfl) ?_
                  refine ql (.bool true) (by kernel_rfl) (by kernel_rfl) ?_
                  refine qc (f := 12) (args := #[]) (by kernel_rfl) (R_call #[] Try.func12 (by kernel_rfl) (by kernel_rfl) (by kernel_rfl)) ?_
                  refine (awake_calls _).mono ?_
                  rintro e W43 ⟨rfl, H_⟩
                  refine ⟨_, rfl, ?_⟩
                  replace HS : St W23 (owns []) W43 [] := HS.join (F := []) (G := []) H_
                  clear H_
                  refine ql (.bool true) (by kernel_rfl) (by kernel_rfl) ?_
                  refine ql (.bool true) (by kernel_rfl) (by kernel_rfl) ?_
                  refine wpList_nil ?_
                  refine x_then ?_
                  refine wp_ret ?_
                  refine x_thenR ?_
                  refine ret_ (.bool true) (by kernel_rfl) ?_
                  replace HS : St W5 (owns []) W43 [row A19 ((reach N arcs v).length) c20 (ci .i64 (reach N arcs v)) 3 1, row (some ⟨g17, 0, none⟩) N N (ci .i64 bs) 3 1] := HB28.join (F := []) (G := []) HS
                  replace HS : St W (owns []) W43 [row A19 ((reach N arcs v).length) c20 (ci .i64 (reach N arcs v)) 3 1, row (some ⟨g17, 0, none⟩) N N (ci .i64 bs) 3 1] := HB6.join (F := []) (G := [row A19 ((reach N arcs v).length) c20 (ci .i64 (reach N arcs v)) 3 1, row (some ⟨g17, 0, none⟩) N N (ci .i64 bs) 3 1]) HS
                  exact ⟨rfl, HS.tail (F := [row A19 ((reach N arcs v).length) c20 (ci .i64 (reach N arcs v)) 3 1, row (some ⟨g17, 0, none⟩) N N (ci .i64 bs) 3 1])⟩
                · skip
                  refine ql (.bool false) (by kernel_rfl) (R_beq (b := ((arcs.length : Int) == (0 : Int))) (by kernel_rfl) (beq_f (hc42))) ?_
                  refine ql (.bool false) (by kernel_rfl) (by kernel_rfl) ?_
                  refine wpList_nil ?_
                  refine x_then ?_
                  refine wp_cond_false (by kernel_rfl) ?_
                  refine wp_skip ?_
                  refine x_then ?_
                  refine wp_seq ?_
                  obtain ⟨q, q_⟩ : ∃ z_ : List (Int × Int), z_ = arcs.take (arcs.length - 1) := ⟨_, rfl⟩
                  have hqln : q.length = arcs.length - 1 := by rw [q_, List.length_take]; omega
                  have hqs : ∀ a ∈ q, a ∈ arcs := by rw [q_]; exact fun a ha => List.mem_of_mem_take ha
                  have hck : chk (N : Int) q = 0 := chk0 (by omega) (by rw [q_]; exact fine_take hFF _)
                  have hrq : Rd W23 A (cf arcC q) := by rw [q_]; exact rd_take hr
                  have hfew := reach_fewer (N := N) hqs (v := v)
                  refine wp_region_lit ?_
                  refine ql (.int .i64 (N : Int)) (by kernel_rfl) (by kernel_rfl) ?_
                  refine ql (.slice A arcs.length c) (by kernel_rfl) (by kernel_rfl) ?_
                  refine ql (.slice A arcs.length c) (by kernel_rfl) (by kernel_rfl) ?_
                  refine ql (.int .i64 (arcs.length : Int)) (by kernel_rfl) (by kernel_rfl) ?_
                  refine ql (.int .i64 ((arcs.length : Int) - 1)) (by kernel_rfl) (R_int (by kernel_rfl) (w64 (by omega))) ?_
                  refine ql (.slice A q.length c) (by kernel_rfl) (R_sliceHn (z := 2) (e := 38) (k := .i64) (A := A) (n := arcs.length) (c := c) (i := (arcs.length : Int) - 1) q.length (by omega) (by kernel_rfl) (by kernel_rfl) Try.underlying22 (by kernel_rfl) (by omega) (by omega)) ?_
                  refine qc (f := 13) (args := #[.int .i64 (N : Int), .slice A q.length c]) (by kernel_rfl) (R_call #[.int .i64 (N : Int), .slice A q.length c] Try.func13 (by kernel_rfl) (by kernel_rfl) (by kernel_rfl)) ?_
                  refine (of_yes N _ _ q _ (hrq.old0 HS) (by omega) hck).mono ?_
                  rintro e W44 ⟨g2, rfl, H_, hG2⟩
                  refine ⟨_, rfl, ?_⟩
                  replace HS : St W23 (owns []) W44 [] := HS.join (F := []) (G := []) H_
                  clear H_
                  have HB45 := HS
                  replace hr := hr.below (HB45.kept.below owns_nil)
                  replace hG := hG.below (HB45.kept.below owns_nil)
                  replace hr29 := hr29.below (HB45.kept.below owns_nil)
                  replace hr30 := hr30.below (HB45.kept.below owns_nil)
                  clear HS
                  have HS : St W44 (owns []) W44 [] := St.start _ _
                  refine ql (.tuple #[.pointer (some ⟨g2, 0, none⟩), .int .i64 0]) (by kernel_rfl) (by kernel_rfl) ?_
                  refine ql (.pointer (some ⟨g2, 0, none⟩)) (by kernel_rfl) (by kernel_rfl) ?_
                  refine ql (.int .i64 0) (by kernel_rfl) (by kernel_rfl) ?_
                  refine ql (.pointer (some ⟨g2, 0, none⟩)) (by kernel_rfl) (by kernel_rfl) ?_
                  refine ql (.int .i64 0) (by kernel_rfl) (by kernel_rfl) ?_
                  refine wpList_nil ?_
                  refine x_then ?_
                  refine wp_seq ?_
                  refine wp_region_lit ?_
                  refine ql (.pointer (some ⟨g2, 0, none⟩)) (by kernel_rfl) (by kernel_rfl) ?_
                  refine ql (.int .i64 v) (by kernel_rfl) (by kernel_rfl) ?_
                  refine qc (f := 14) (args := #[.pointer (some ⟨g2, 0, none⟩), .int .i64 v]) (by kernel_rfl) (R_call #[.pointer (some ⟨g2, 0, none⟩), .int .i64 v] Try.func14 (by kernel_rfl) (by kernel_rfl) (by kernel_rfl)) ?_
                  refine (reach_yes g2 N q _ (hG2.below (HS.kept.below owns_nil)) v (by omega) (by omega)).mono ?_
                  rintro e W48 ⟨A46, c47, rfl, H_⟩
                  refine ⟨_, rfl, ?_⟩
                  replace HS : St W44 (owns []) W48 [row A46 ((reach N q v).length) c47 (ci .i64 (reach N q v)) 3 1] := HS.join (F := []) (G := [row A46 ((reach N q v).length) c47 (ci .i64 (reach N q v)) 3 1]) H_
                  clear H_
                  refine ql (.slice A46 ((reach N q v).length) c47) (by kernel_rfl) (by kernel_rfl) ?_
                  refine wpList_nil ?_
                  refine x_then ?_
                  refine wp_seq ?_
                  refine wp_seq ?_
                  have HB49 := HS
                  replace hr := hr.below (HB49.kept.below owns_nil)
                  replace hG := hG.below (HB49.kept.below owns_nil)
                  replace hr29 := hr29.below (HB49.kept.below owns_nil)
                  replace hr30 := hr30.below (HB49.kept.below owns_nil)
                  replace hG2 := hG2.below (HB49.kept.below owns_nil)
                  have hr50 := Rd.row HB49 (i := 0) rfl
                  clear HS
                  have HS : St W48 (owns []) W48 [] := St.start _ _
                  refine wp_region_lit ?_
                  refine ql (.int .i64 0) (by kernel_rfl) (by kernel_rfl) ?_
                  refine wpList_nil ?_
                  refine x_then ?_
                  refine wp_block ?_
                  refine wp_loop_ghost (fun kq a' w' => ∃ (j6 : Value) (j131 : Value) (j132 : Value) (j133 : Value) (j134 : Value) (j135 : Value) (j136 : Value) (j137 : Value) (j138 : Value) (j139 : Value) (j140 : Value) (j141 : Value) (j142 : Value) (j143 : Value) (j144 : Value) (t : Int) , a' = Fr ((.int .i64 (N : Int)) :: (.slice A arcs.length c) :: (.int .i64 v) :: undef :: undef :: undef :: j6 :: (.pointer (some ⟨g, 0, none⟩)) :: (.int .i64 0) :: (.slice (some ⟨g17, 0, none⟩) N N) :: (.slice A19 ((reach N arcs v).length) c20) :: (.int .i64 i) :: (.int .i64 p) :: j13 :: j14 :: (.pointer (some ⟨g2, 0, none⟩)) :: (.int .i64 0) :: (.slice A46 ((reach N q v).length) c47) :: (.int .i64 t) :: (.slice A arcs.length c) :: (.int .i64 (arcs.length : Int)) :: (.bool false) :: (.bool false) :: (.int .i64 (N : Int)) :: (.bool false) :: (.bool false) :: undef :: (.tuple #[.pointer (some ⟨g, 0, none⟩), .int .i64 0]) :: (.int .i64 (N : Int)) :: (.slice A arcs.length c) :: (.tuple #[.pointer (some ⟨g, 0, none⟩), .int .i64 0]) :: (.pointer (some ⟨g, 0, none⟩)) :: (.int .i64 0) :: (.int .i64 0) :: (.bool false) :: (.bool false) :: (.int .i64 v) :: (.bool false) :: (.bool false) :: (.bool false) :: (.int .i64 v) :: (.int .i64 (N : Int)) :: (.bool false) :: (.bool false) :: undef :: undef :: undef :: undef :: undef :: undef :: undef :: undef :: (.int .i64 (N : Int)) :: (.slice (some ⟨g17, 0, none⟩) N N) :: (.pointer (some ⟨g, 0, none⟩)) :: (.int .i64 v) :: (.slice A19 ((reach N arcs v).length) c20) :: (.int .i64 i) :: (.slice A19 ((reach N arcs v).length) c20) :: (.int .i64 ((reach N arcs v).length : Int)) :: (.bool false) :: j61 :: j62 :: j63 :: j64 :: j65 :: j66 :: j67 :: j68 :: (.int .i64 p) :: (.slice A19 ((reach N arcs v).length) c20) :: (.int .i64 ((reach N arcs v).length : Int)) :: (.bool false) :: j73 :: j74 :: j75 :: j76 :: j77 :: j78 :: j79 :: j80 :: j81 :: j82 :: j83 :: j84 :: j85 :: j86 :: j87 :: j88 :: j89 :: j90 :: j91 :: j92 :: j93 :: j94 :: (.slice (some ⟨g17, 0, none⟩) N N) :: (.int .i64 v) :: (.pointer (some ⟨g17, v.toNat, none⟩)) :: (.int .i64 (rdI bs v)) :: (.bool false) :: (.bool false) :: (.slice A arcs.length c) :: (.int .i64 (arcs.length : Int)) :: (.bool false) :: (.bool false) :: undef :: undef :: undef :: undef :: undef :: undef :: undef :: undef :: undef :: undef :: undef :: undef :: undef :: (.tuple #[.pointer (some ⟨g2, 0, none⟩), .int .i64 0]) :: (.int .i64 (N : Int)) :: (.slice A arcs.length c) :: (.slice A arcs.length c) :: (.int .i64 (arcs.length : Int)) :: (.int .i64 ((arcs.length : Int) - 1)) :: (.slice A q.length c) :: (.tuple #[.pointer (some ⟨g2, 0, none⟩), .int .i64 0]) :: (.pointer (some ⟨g2, 0, none⟩)) :: (.int .i64 0) :: (.pointer (some ⟨g2, 0, none⟩)) :: (.int .i64 v) :: (.slice A46 ((reach N q v).length) c47) :: j131 :: j132 :: j133 :: j134 :: j135 :: j136 :: j137 :: j138 :: j139 :: j140 :: j141 :: j142 :: j143 :: j144 :: undef :: undef :: undef :: undef :: undef :: undef :: undef :: undef :: undef :: undef :: undef :: undef :: []) ∧ kq = ((reach N q v).length - (t).toNat) ∧ (0 ≤ t) ∧ (t ≤ (reach N q v).length) ∧ St W48 (owns []) w' []) ((reach N q v).length - ((0 : Int)).toNat) ⟨(j6 : Value), (undef : Value), (undef : Value), (undef : Value), (undef : Value), (undef : Value), (undef : Value), (undef : Value), (undef : Value), (undef : Value), (undef : Value), (undef : Value), (undef : Value), (undef : Value), (undef : Value), (0 : Int), congrArg Fr (by kernel_rfl), rfl, by omega, by omega, HS⟩ ?_
                  clear HS
                  intro kq51 a' W52 hrel
                  obtain ⟨j6, j131, j132, j133, j134, j135, j136, j137, j138, j139, j140, j141, j142, j143, j144, t, rfl, hk, t0, t1, HS⟩ := hrel
                  refine wp_seq ?_
                  refine wp_seq ?_
                  refine wp_region_lit ?_
                  refine ql (.int .i64 t) (by kernel_rfl) (by kernel_rfl) ?_
                  refine ql (.slice A46 ((reach N q v).length) c47) (by kernel_rfl) (by kernel_rfl) ?_
                  refine ql (.int .i64 ((reach N q v).length : Int)) (by kernel_rfl) (by kernel_rfl) ?_
                  by_cases hc53 : t < ((reach N q v).length : Int)
                  · skip
                    refine ql (.bool true) (by kernel_rfl) (R_bool (p := t < ((reach N q v).length : Int)) (by kernel_rfl) (hc53)) ?_
                    refine wpList_nil ?_
                    refine x_then ?_
                    refine wp_cond_true (by kernel_rfl) ?_
                    refine wp_skip ?_
                    refine x_then ?_
                    refine wp_seq ?_
                    refine wp_block ?_
                    refine wp_seq ?_
                    have hz := reach_sub hqs (rdI_in (xs := reach N q v) t0 (by omega))
                    have hzr := reach_in _ hz
                    have hz1 := hall _ hz
                    refine wp_region_lit ?_
                    refine ql (.slice (some ⟨g17, 0, none⟩) N N) (by kernel_rfl) (by kernel_rfl) ?_
                    refine ql (.slice A46 ((reach N q v).length) c47) (by kernel_rfl) (by kernel_rfl) ?_
                    refine ql (.int .i64 t) (by kernel_rfl) (by kernel_rfl) ?_
                    obtain ⟨ad54, rfl⟩ := Rd.isSome_ hr50 (by rw [ci_len]; omega)
                    refine ql (.pointer (some (ad54.add t.toNat))) (by kernel_rfl) (R_indexA1 (k := .i64) (p := ad54) (n := ((reach N q v).length)) (c := c47) (i := t) (by kernel_rfl) (by kernel_rfl) Try.underlying28 (by kernel_rfl) (by omega) (by omega)) ?_
                    refine ql (.int .i64 (rdI (reach N q v) t)) (by kernel_rfl) (R_load (p := ad54.add t.toNat) (by kernel_rfl) (by kernel_rfl) (by kernel_rfl) (HS.old0 (hr50.at_ (ci_rd (by omega) (by omega))))) ?_
                    refine ql (.pointer (some ⟨g17, (rdI (reach N q v) t).toNat, none⟩)) (by kernel_rfl) (R_index1 (k := .i64) (g := g17) (n := N) (c := N) (i := rdI (reach N q v) t) (by kernel_rfl) (by kernel_rfl) Try.underlying28 (by kernel_rfl) (by omega) (by omega)) ?_
                    refine ql (.int .i64 (rdI bs (rdI (reach N q v) t))) (by kernel_rfl) (R_load (p := ⟨g17, (rdI (reach N q v) t).toNat, none⟩) (by kernel_rfl) (by kernel_rfl) (by kernel_rfl) (HS.old0 (rd_blk hr30 (by omega) (by omega)))) ?_
                    refine ql (.bool false) (by kernel_rfl) (R_beq (b := (rdI bs (rdI (reach N q v) t) == (0 : Int))) (by kernel_rfl) (beq_f (by omega))) ?_
                    refine wpList_nil ?_
                    refine x_then ?_
                    refine wp_cond_false (by kernel_rfl) ?_
                    refine wp_skip ?_
                    refine x_inb ?_
                    refine x_then ?_
                    refine wp_region_lit ?_
                    refine ql (.int .i64 t) (by kernel_rfl) (by kernel_rfl) ?_
                    refine ql (.int .i64 (t + 1)) (by kernel_rfl) (R_int (by kernel_rfl) (w64 (by omega))) ?_
                    refine ql (.int .i64 (t + 1)) (by kernel_rfl) (by kernel_rfl) ?_
                    refine wpList_nil ?_
                    refine x_then ?_
                    exact ⟨(reach N q v).length - (t + 1).toNat, by omega, (j6 : Value), (.int .i64 t : Value), (.slice (some ad54) ((reach N q v).length) c47 : Value), (.int .i64 ((reach N q v).length : Int) : Value), (.bool true : Value), (.int .i64 t : Value), (.int .i64 (t + 1) : Value), (.slice (some ⟨g17, 0, none⟩) N N : Value), (.slice (some ad54) ((reach N q v).length) c47 : Value), (.int .i64 t : Value), (.pointer (some (ad54.add t.toNat)) : Value), (.int .i64 (rdI (reach N q v) t) : Value), (.pointer (some ⟨g17, (rdI (reach N q v) t).toNat, none⟩) : Value), (.int .i64 (rdI bs (rdI (reach N q v) t)) : Value), (.bool false : Value), t + 1, congrArg Fr (by kernel_rfl), rfl, by omega, by omega, HS⟩
                  · skip
                    refine ql (.bool false) (by kernel_rfl) (R_nbool (p := t < ((reach N q v).length : Int)) (by kernel_rfl) (hc53)) ?_
                    refine wpList_nil ?_
                    refine x_then ?_
                    refine wp_cond_false (by kernel_rfl) ?_
                    refine wp_exit ?_
                    refine x_thenE ?_
                    refine x_thenE ?_
                    refine x_hit ?_
                    refine x_then ?_
                    refine wp_seq ?_
                    refine wp_region_lit ?_
                    refine ql (.int .i64 0) (by kernel_rfl) (by kernel_rfl) ?_
                    refine ql (.bool true) (by kernel_rfl) (R_beq (b := ((0 : Int) == 0)) (by kernel_rfl) (by decide)) ?_
                    refine ql (.bool true) (by kernel_rfl) (by kernel_rfl) ?_
                    refine ql (.slice A46 ((reach N q v).length) c47) (by kernel_rfl) (by kernel_rfl) ?_
                    refine ql (.int .i64 ((reach N q v).length : Int)) (by kernel_rfl) (by kernel_rfl) ?_
                    refine ql (.slice A19 ((reach N arcs v).length) c20) (by kernel_rfl) (by kernel_rfl) ?_
                    refine ql (.int .i64 ((reach N arcs v).length : Int)) (by kernel_rfl) (by kernel_rfl) ?_
                    refine ql (.bool true) (by kernel_rfl) (R_bool (p := ((reach N q v).length : Int) ≤ ((reach N arcs v).length : Int)) (by kernel_rfl) (by omega)) ?_
                    refine ql (.bool true) (by kernel_rfl) (by kernel_rfl) ?_
                    refine ql (.bool true) (by kernel_rfl) (by kernel_rfl) ?_
                    refine qc (f := 12) (args := #[]) (by kernel_rfl) (R_call #[] Try.func12 (by kernel_rfl) (by kernel_rfl) (by kernel_rfl)) ?_
                    refine (awake_calls _).mono ?_
                    rintro e W55 ⟨rfl, H_⟩
                    refine ⟨_, rfl, ?_⟩
                    replace HS : St W48 (owns []) W55 [] := HS.join (F := []) (G := []) H_
                    clear H_
                    refine ql (.bool true) (by kernel_rfl) (by kernel_rfl) ?_
                    refine ql (.bool true) (by kernel_rfl) (by kernel_rfl) ?_
                    refine wpList_nil ?_
                    refine x_then ?_
                    refine wp_ret ?_
                    refine ret_ (.bool true) (by kernel_rfl) ?_
                    replace HS : St W44 (owns []) W55 [row A46 ((reach N q v).length) c47 (ci .i64 (reach N q v)) 3 1] := HB49.join (F := []) (G := []) HS
                    replace HS : St W23 (owns []) W55 [row A46 ((reach N q v).length) c47 (ci .i64 (reach N q v)) 3 1] := HB45.join (F := []) (G := [row A46 ((reach N q v).length) c47 (ci .i64 (reach N q v)) 3 1]) HS
                    replace HS : St W5 (owns []) W55 [row A46 ((reach N q v).length) c47 (ci .i64 (reach N q v)) 3 1, row A19 ((reach N arcs v).length) c20 (ci .i64 (reach N arcs v)) 3 1, row (some ⟨g17, 0, none⟩) N N (ci .i64 bs) 3 1] := HB28.join (F := []) (G := [row A46 ((reach N q v).length) c47 (ci .i64 (reach N q v)) 3 1]) HS
                    replace HS : St W (owns []) W55 [row A46 ((reach N q v).length) c47 (ci .i64 (reach N q v)) 3 1, row A19 ((reach N arcs v).length) c20 (ci .i64 (reach N arcs v)) 3 1, row (some ⟨g17, 0, none⟩) N N (ci .i64 bs) 3 1] := HB6.join (F := []) (G := [row A46 ((reach N q v).length) c47 (ci .i64 (reach N q v)) 3 1, row A19 ((reach N arcs v).length) c20 (ci .i64 (reach N arcs v)) 3 1, row (some ⟨g17, 0, none⟩) N N (ci .i64 bs) 3 1]) HS
                    exact ⟨rfl, HS.tail (F := [row A46 ((reach N q v).length) c47 (ci .i64 (reach N q v)) 3 1, row A19 ((reach N arcs v).length) c20 (ci .i64 (reach N arcs v)) 3 1, row (some ⟨g17, 0, none⟩) N N (ci .i64 bs) 3 1])⟩
      · refine ⟨_, rfl, ?_⟩
        replace HS : St W (owns []) W5 [] := HS.join (F := []) (G := []) H_
        clear H_
        refine ql (.tuple #[.pointer none, .int .i64 (chk n arcs)]) (by kernel_rfl) (by kernel_rfl) ?_
        refine ql (.pointer none) (by kernel_rfl) (by kernel_rfl) ?_
        refine ql (.int .i64 (chk n arcs)) (by kernel_rfl) (by kernel_rfl) ?_
        refine ql (.pointer none) (by kernel_rfl) (by kernel_rfl) ?_
        refine ql (.int .i64 (chk n arcs)) (by kernel_rfl) (by kernel_rfl) ?_
        refine wpList_nil ?_
        refine x_then ?_
        refine wp_seq ?_
        refine wp_seq ?_
        refine wp_region_lit ?_
        refine ql (.int .i64 (chk n arcs)) (by kernel_rfl) (by kernel_rfl) ?_
        refine ql (.bool true) (by kernel_rfl) (R_beq (b := (chk n arcs != (0 : Int))) (by kernel_rfl) (bne_t (by omega))) ?_
        refine ql (.bool true) (by kernel_rfl) (by kernel_rfl) ?_
        refine qln (by kernel_rfl) ?_
        refine qln (by kernel_rfl) ?_
        refine ql (.bool true) (by kernel_rfl) (by kernel_rfl) ?_
        refine ql (.bool true) (by kernel_rfl) (by kernel_rfl) ?_
        refine qln (by kernel_rfl) ?_
        refine qln (by kernel_rfl) ?_
        refine qln (by kernel_rfl) ?_
        refine ql (.bool true) (by kernel_rfl) (by kernel_rfl) ?_
        refine wpList_nil ?_
        refine x_then ?_
        refine wp_cond_true (by kernel_rfl) ?_
        refine wp_seq ?_
        refine wp_region_lit ?_
        refine ql (.pointer none) (by kernel_rfl) (by kernel_rfl) ?_
        refine ql (.int .i64 v) (by kernel_rfl) (by kernel_rfl) ?_
        refine qc (f := 14) (args := #[.pointer none, .int .i64 v]) (by kernel_rfl) (R_call #[.pointer none, .int .i64 v] Try.func14 (by kernel_rfl) (by kernel_rfl) (by kernel_rfl)) ?_
        refine (reach_nil _ v).mono ?_
        rintro e W56 ⟨rfl, H_⟩
        refine ⟨_, rfl, ?_⟩
        replace HS : St W (owns []) W56 [] := HS.join (F := []) (G := []) H_
        clear H_
        refine ql (.int .i64 0) (by kernel_rfl) (by kernel_rfl) ?_
        refine ql (.bool true) (by kernel_rfl) (R_beq (b := ((0 : Int) == 0)) (by kernel_rfl) (by decide)) ?_
        refine ql (.bool true) (by kernel_rfl) (by kernel_rfl) ?_
        refine qc (f := 12) (args := #[]) (by kernel_rfl) (R_call #[] Try.func12 (by kernel_rfl) (by kernel_rfl) (by kernel_rfl)) ?_
        refine (awake_calls _).mono ?_
        rintro e W57 ⟨rfl, H_⟩
        refine ⟨_, rfl, ?_⟩
        replace HS : St W (owns []) W57 [] := HS.join (F := []) (G := []) H_
        clear H_
        refine ql (.bool true) (by kernel_rfl) (by kernel_rfl) ?_
        refine ql (.bool true) (by kernel_rfl) (by kernel_rfl) ?_
        refine wpList_nil ?_
        refine x_then ?_
        refine wp_ret ?_
        refine x_thenR ?_
        refine ret_ (.bool true) (by kernel_rfl) ?_
        exact ⟨rfl, HS.tail (F := [])⟩

end Go.Proofs.Ythfpdpjccnnlhaa.GGraphReaches
