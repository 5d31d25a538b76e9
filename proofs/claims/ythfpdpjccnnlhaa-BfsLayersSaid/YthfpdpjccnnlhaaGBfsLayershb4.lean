/- Written for this claim by gp.py, a program of this session's, over the kit's print. Lean checks it. -/
import Derived.Test.YthfpdpjccnnlhaaGBfsLayersx0
import Derived.Test.YthfpdpjccnnlhaaGBfsLayershhp1
import Derived.Test.YthfpdpjccnnlhaaGBfsLayershhp2
import Derived.Test.YthfpdpjccnnlhaaGBfsLayershgp
import Derived.Test.YthfpdpjccnnlhaaGBfsLayershg1
import Derived.Test.YthfpdpjccnnlhaaGBfsLayershg6
import Derived.Test.YthfpdpjccnnlhaaGBfsLayershhp3
import Derived.Test.YthfpdpjccnnlhaaGBfsLayershb1a
import Derived.Test.YthfpdpjccnnlhaaGBfsLayershb2a
import Derived.Test.YthfpdpjccnnlhaaGBfsLayershb2b
import Derived.WalkKit
import Derived.StillTailTactics
import Derived.Deep.LoopGhost
import Derived.KernelRfl
import Derived.Deep.OwnRows
import Derived.Laws.OwnMore
import Derived.Laws.MakeOwn
import Derived.Maps.AppendAt
import Derived.OrdersHeld
namespace Go.Proofs.Ythfpdpjccnnlhaa.GBfsLayers
open Go.RowKit Go.Proofs.YthfpdpjccnnlhaaW.PrintWords Go.Proofs.YthfpdpjccnnlhaaW.PrintLast Go.Proofs.YthfpdpjccnnlhaaW.PrintMore
attribute [local go_sem] max2_int min2_int max_two min_two max_three min_three max_four min_four   -- for this text's walks alone
set_option linter.unusedVariables false
set_option linter.unusedSimpArgs false

--import Derived.WalkKit
--import Derived.StillTailTactics
--import Derived.Deep.LoopGhost
--import Derived.KernelRfl
--import Derived.Deep.OwnRows
--import Derived.Laws.OwnMore
--import Derived.Laws.MakeOwn
--import Derived.Maps.AppendAt
--import Derived.OrdersHeld
attribute [local irreducible] wpStill wpList Code.wp TA

/-- A tree in memory. -/
def TAt (W : World) (t : Nat) (ds bs : List Int) : Prop := ∃ D B cd cb, W.cell? ⟨t, 1, none⟩ = some (.slice D ds.length cd) ∧ W.cell? ⟨t, 2, none⟩ = some (.slice B bs.length cb) ∧ Rd W D (ci .i64 ds) ∧ Rd W B (ci .i64 bs) ∧ bs.length = ds.length
theorem cell_below {W W' : World} {p : Addr} {v : Value} (h : W.cell? p = some v) (hb : Below W.heap.size W W') : W'.cell? p = some v := (World.cell?_of_block (hb.block p.block (World.block_lt_of_cell? W p h))).trans h
theorem TAt.below {W W' : World} {t : Nat} {ds bs : List Int} (h : TAt W t ds bs) (hb : Below W.heap.size W W') : TAt W' t ds bs := by
  obtain ⟨D, B, cd, cb, h1, h2, h3, h4, h5⟩ := h
  exact ⟨D, B, cd, cb, cell_below h1 hb, cell_below h2 hb, h3.below hb, h4.below hb, h5⟩
theorem TAt.of {W0 W : World} {M : Nat → Prop} {L : List Ent} {N t tb : Nat} {v : Value} {D B : Option Addr} {cd cb : Nat} {ds bs : List Int} (HS : St W0 M W (blk t [v, .slice D N cd, .slice B N cb] tb :: row D N cd (ci .i64 ds) 3 1 :: row B N cb (ci .i64 bs) 3 1 :: L)) (hd : ds.length = N) (hb : bs.length = N) : TAt W t ds bs := by
  subst hd
  refine ⟨D, B, cd, cb, HS.cell (i := 0) (j := 1) rfl rfl, ?_, Rd.row HS (i := 1) rfl, Rd.row HS (i := 2) rfl, hb⟩
  rw [hb]; exact HS.cell (i := 0) (j := 2) rfl rfl
theorem Rd_any {W : World} {A : Option Addr} {k : IntKind} : Rd W A (ci k []) := fun j v h => by rw [ci_nil] at h; simp at h

theorem tdist_y (t : Nat) (ds bs : List Int) (W : World) (hT : TAt W t ds bs) (v : Int) (h0 : 0 ≤ v) (h1' : v < ds.length) : Calls Try.prog 31 #[.pointer (some ⟨t, 0, none⟩), .int .i64 v] W fun e W' => e = .returned (.int .i64 (rdI ds v)) ∧ St W (owns []) W' [] := by
  obtain ⟨D, B, cd, cb, h1, h2, h3, h4, h5⟩ := hT
  exact tdist_yes t D B cd cb ds bs W v h1 h2 h3 h4 h5 ⟨h0, h1'⟩

theorem tdist_n (t : Nat) (ds bs : List Int) (W : World) (hT : TAt W t ds bs) (v : Int) (hv : ¬ (0 ≤ v ∧ v < ds.length)) : Calls Try.prog 31 #[.pointer (some ⟨t, 0, none⟩), .int .i64 v] W fun e W' => e = .returned (.int .i64 (-1)) ∧ St W (owns []) W' [] := by
  obtain ⟨D, B, cd, cb, h1, h2, h3, h4, h5⟩ := hT
  exact tdist_no t D B cd cb ds bs W v h1 h2 h3 h4 h5 hv

theorem tback_y (t : Nat) (ds bs : List Int) (W : World) (hT : TAt W t ds bs) (v : Int) (h0 : 0 ≤ v) (h1' : v < ds.length) : Calls Try.prog 34 #[.pointer (some ⟨t, 0, none⟩), .int .i64 v] W fun e W' => e = .returned (.int .i64 (rdI bs v)) ∧ St W (owns []) W' [] := by
  obtain ⟨D, B, cd, cb, h1, h2, h3, h4, h5⟩ := hT
  exact tback_yes t D B cd cb ds bs W v h1 h2 h3 h4 h5 ⟨h0, h1'⟩

theorem tback_n (t : Nat) (ds bs : List Int) (W : World) (hT : TAt W t ds bs) (v : Int) (hv : ¬ (0 ≤ v ∧ v < ds.length)) : Calls Try.prog 34 #[.pointer (some ⟨t, 0, none⟩), .int .i64 v] W fun e W' => e = .returned (.int .i64 (-1)) ∧ St W (owns []) W' [] := by
  obtain ⟨D, B, cd, cb, h1, h2, h3, h4, h5⟩ := hT
  exact tback_no t D B cd cb ds bs W v h1 h2 h3 h4 h5 hv

theorem tfar_ (t : Nat) (ds bs : List Int) (W : World) (hT : TAt W t ds bs) (hl : ds.length ≤ 1099511627776) : Calls Try.prog 32 #[.pointer (some ⟨t, 0, none⟩)] W fun e W' => e = .returned (.int .i64 (farth ds)) ∧ St W (owns []) W' [] := by
  obtain ⟨D, B, cd, cb, h1, h2, h3, h4, h5⟩ := hT
  exact tfar t D B cd cb ds bs W h1 h2 h3 h4 h5 hl

theorem tlayer_y (t : Nat) (ds bs : List Int) (W : World) (hT : TAt W t ds bs) (v : Int) (hl : ds.length ≤ 1099511627776) (h0 : 0 ≤ v) : Calls Try.prog 36 #[.pointer (some ⟨t, 0, none⟩), .int .i64 v] W fun e W' => ∃ A' c', e = .returned (.slice A' (layr ds v ds.length).length c') ∧ St W (owns []) W' [row A' (layr ds v ds.length).length c' (ci .i64 (layr ds v ds.length)) 3 1] := by
  obtain ⟨D, B, cd, cb, h1, h2, h3, h4, h5⟩ := hT
  exact tlayer t D B cd cb ds bs W v h1 h2 h3 h4 h5 hl h0

theorem tlayer_n (t : Nat) (ds bs : List Int) (W : World) (hT : TAt W t ds bs) (v : Int) (h0 : v < 0) : Calls Try.prog 36 #[.pointer (some ⟨t, 0, none⟩), .int .i64 v] W fun e W' => e = .returned (.slice none 0 0) ∧ St W (owns []) W' [] := by
  obtain ⟨D, B, cd, cb, h1, h2, h3, h4, h5⟩ := hT
  exact tlayer_no t D B cd cb ds bs W v h1 h2 h3 h4 h5 h0

theorem fromT_yes (g N : Nat) (arcs : List (Int × Int)) (v : Int) (W : World) (hG : GAt W g N arcs) (hN : N ≤ 1048576) (hm : arcs.length ≤ 67108864) (hv0 : 0 ≤ v) (hv1 : v < N) : Calls Try.prog 30 #[.pointer (some ⟨g, 0, none⟩), .int .i64 v, .pointer none] W fun e W' => ∃ (t : Nat) (ds bs : List Int), e = .returned (.pointer (some ⟨t, 0, none⟩)) ∧ St W (owns []) W' [] ∧ TAt W' t ds bs ∧ DS N arcs v ds ∧ BK N arcs ds bs := by
  refine (from_yes g N arcs v W hG hN hm hv0 hv1).mono ?_
  rintro e W' ⟨t, D, B, cd, cb, ds, bs, he, hs, hd, hb⟩
  exact ⟨t, ds, bs, he, hs.drop1.drop1.drop1, TAt.of hs hd.ld hb.lb, hd, hb⟩

theorem fromC_yes (g N : Nat) (arcs : List (Int × Int)) (v : Int) (gc tc : Nat) (k0 : Int) (W0 W : World) (hG : GAt W0 g N arcs) (hB0 : Below W0.heap.size W0 W) (hgc : W0.heap.size ≤ gc) (HS : St W (owns [blk gc [.int .i64 0, .int .i64 0, .int .i64 0, .int .i64 0, .int .i64 0, .int .i64 0, .int .i64 k0] tc]) W [blk gc [.int .i64 0, .int .i64 0, .int .i64 0, .int .i64 0, .int .i64 0, .int .i64 0, .int .i64 k0] tc]) (hk0 : 0 ≤ k0) (hk9 : k0 ≤ 1099511627776) (hN : N ≤ 1048576) (hm : arcs.length ≤ 67108864) (hv0 : 0 ≤ v) (hv1 : v < N) : Calls Try.prog 30 #[.pointer (some ⟨g, 0, none⟩), .int .i64 v, .pointer (some ⟨gc, 0, none⟩)] W fun e W' => ∃ (t : Nat) (ds bs : List Int) (k : Nat), e = .returned (.pointer (some ⟨t, 0, none⟩)) ∧ St W (owns [blk gc [.int .i64 0, .int .i64 0, .int .i64 0, .int .i64 0, .int .i64 0, .int .i64 0, .int .i64 k0] tc]) W' [blk gc [.int .i64 0, .int .i64 0, .int .i64 0, .int .i64 0, .int .i64 0, .int .i64 0, .int .i64 (k0 + ((k : Nat) : Int))] tc] ∧ TAt W' t ds bs ∧ DS N arcs v ds ∧ BK N arcs ds bs ∧ k ≤ N + arcs.length := by
  refine (from_yes_c g N arcs v gc tc k0 W0 W hG hB0 hgc HS hk0 hk9 hN hm hv0 hv1).mono ?_
  rintro e W' ⟨t, D, B, cd, cb, ds, bs, k, he, hs, hd, hb, hk⟩
  exact ⟨t, ds, bs, k, he, hs.drop1.drop1.drop1, TAt.of hs hd.ld hb.lb, hd, hb, hk⟩

theorem fromT_no (g N : Nat) (arcs : List (Int × Int)) (v : Int) (W : World) (hG : GAt W g N arcs) (hN : N ≤ 1048576) (hm : arcs.length ≤ 67108864) (hv : ¬ (0 ≤ v ∧ v < N)) : Calls Try.prog 30 #[.pointer (some ⟨g, 0, none⟩), .int .i64 v, .pointer none] W fun e W' => ∃ (t : Nat) (ds bs : List Int), e = .returned (.pointer (some ⟨t, 0, none⟩)) ∧ St W (owns []) W' [] ∧ TAt W' t ds bs ∧ DS N arcs v ds ∧ BK N arcs ds bs := by
  refine (from_no g N arcs v W hG hN hm hv).mono ?_
  rintro e W' ⟨t, D, B, cd, cb, ds, bs, he, hs, hd, hb⟩
  exact ⟨t, ds, bs, he, hs.drop1.drop1.drop1, TAt.of hs hd.ld hb.lb, hd, hb⟩

theorem fromC_no (g N : Nat) (arcs : List (Int × Int)) (v : Int) (gc tc : Nat) (k0 : Int) (W0 W : World) (hG : GAt W0 g N arcs) (hB0 : Below W0.heap.size W0 W) (hgc : W0.heap.size ≤ gc) (HS : St W (owns [blk gc [.int .i64 0, .int .i64 0, .int .i64 0, .int .i64 0, .int .i64 0, .int .i64 0, .int .i64 k0] tc]) W [blk gc [.int .i64 0, .int .i64 0, .int .i64 0, .int .i64 0, .int .i64 0, .int .i64 0, .int .i64 k0] tc]) (hk0 : 0 ≤ k0) (hk9 : k0 ≤ 1099511627776) (hN : N ≤ 1048576) (hm : arcs.length ≤ 67108864) (hv : ¬ (0 ≤ v ∧ v < N)) : Calls Try.prog 30 #[.pointer (some ⟨g, 0, none⟩), .int .i64 v, .pointer (some ⟨gc, 0, none⟩)] W fun e W' => ∃ (t : Nat) (ds bs : List Int) (k : Nat), e = .returned (.pointer (some ⟨t, 0, none⟩)) ∧ St W (owns [blk gc [.int .i64 0, .int .i64 0, .int .i64 0, .int .i64 0, .int .i64 0, .int .i64 0, .int .i64 k0] tc]) W' [blk gc [.int .i64 0, .int .i64 0, .int .i64 0, .int .i64 0, .int .i64 0, .int .i64 0, .int .i64 (k0 + ((k : Nat) : Int))] tc] ∧ TAt W' t ds bs ∧ DS N arcs v ds ∧ BK N arcs ds bs ∧ k ≤ N + arcs.length := by
  refine (from_no_c g N arcs v gc tc k0 W0 W hG hB0 hgc HS hk0 hk9 hN hm hv).mono ?_
  rintro e W' ⟨t, D, B, cd, cb, ds, bs, k, he, hs, hd, hb, hk⟩
  exact ⟨t, ds, bs, k, he, hs.drop1.drop1.drop1, TAt.of hs hd.ld hb.lb, hd, hb, hk⟩

theorem fromC (g N : Nat) (arcs : List (Int × Int)) (v : Int) (gc tc : Nat) (k0 : Int) (W0 W : World) (hG : GAt W0 g N arcs) (hB0 : Below W0.heap.size W0 W) (hgc : W0.heap.size ≤ gc) (HS : St W (owns [blk gc [.int .i64 0, .int .i64 0, .int .i64 0, .int .i64 0, .int .i64 0, .int .i64 0, .int .i64 k0] tc]) W [blk gc [.int .i64 0, .int .i64 0, .int .i64 0, .int .i64 0, .int .i64 0, .int .i64 0, .int .i64 k0] tc]) (hk0 : 0 ≤ k0) (hk9 : k0 ≤ 1099511627776) (hN : N ≤ 1048576) (hm : arcs.length ≤ 67108864) : Calls Try.prog 30 #[.pointer (some ⟨g, 0, none⟩), .int .i64 v, .pointer (some ⟨gc, 0, none⟩)] W fun e W' => ∃ (t : Nat) (ds bs : List Int) (k : Nat), e = .returned (.pointer (some ⟨t, 0, none⟩)) ∧ St W (owns [blk gc [.int .i64 0, .int .i64 0, .int .i64 0, .int .i64 0, .int .i64 0, .int .i64 0, .int .i64 k0] tc]) W' [blk gc [.int .i64 0, .int .i64 0, .int .i64 0, .int .i64 0, .int .i64 0, .int .i64 0, .int .i64 (k0 + ((k : Nat) : Int))] tc] ∧ TAt W' t ds bs ∧ DS N arcs v ds ∧ BK N arcs ds bs ∧ k ≤ N + arcs.length := by
  by_cases hv : 0 ≤ v ∧ v < N
  · exact fromC_yes g N arcs v gc tc k0 W0 W hG hB0 hgc HS hk0 hk9 hN hm hv.1 hv.2
  · exact fromC_no g N arcs v gc tc k0 W0 W hG hB0 hgc HS hk0 hk9 hN hm hv
theorem fromT (g N : Nat) (arcs : List (Int × Int)) (v : Int) (W : World) (hG : GAt W g N arcs) (hN : N ≤ 1048576) (hm : arcs.length ≤ 67108864) : Calls Try.prog 30 #[.pointer (some ⟨g, 0, none⟩), .int .i64 v, .pointer none] W fun e W' => ∃ (t : Nat) (ds bs : List Int), e = .returned (.pointer (some ⟨t, 0, none⟩)) ∧ St W (owns []) W' [] ∧ TAt W' t ds bs ∧ DS N arcs v ds ∧ BK N arcs ds bs := by
  by_cases hv : 0 ≤ v ∧ v < N
  · exact fromT_yes g N arcs v W hG hN hm hv.1 hv.2
  · exact fromT_no g N arcs v W hG hN hm hv
theorem fromN (v : Int) (W : World) : Calls Try.prog 30 #[.pointer none, .int .i64 v, .pointer none] W fun e W' => ∃ (t : Nat), e = .returned (.pointer (some ⟨t, 0, none⟩)) ∧ St W (owns []) W' [] ∧ TAt W' t [] [] := by
  refine (from_nil v W).mono ?_
  rintro e W' ⟨t, D, B, cd, cb, he, hs⟩
  exact ⟨t, he, hs.drop1.drop1.drop1, TAt.of hs rfl rfl⟩

theorem awk13_chk : chk ((4 : Nat) : Int) [(0, 1), (0, 2), (2, 1), (1, 3), (2, 3)] = 0 := by unfold chk fineB; decide
theorem awk13_ds : DS 4 [(0, 1), (0, 2), (2, 1), (1, 3), (2, 3)] 0 [0, 1, 1, 2] := by
  refine ⟨rfl, fun w a b => ?_, fun w a b => ?_, fun w a b => ?_, fun i a b => ?_⟩
  · rcases (by omega : w = 0 ∨ w = 1 ∨ w = 2 ∨ w = 3) with rfl | rfl | rfl | rfl <;> (first | decide | (unfold rdI; decide) | (unfold rdI gx; decide) | (unfold gx; decide))
  · rcases (by omega : w = 0 ∨ w = 1 ∨ w = 2 ∨ w = 3) with rfl | rfl | rfl | rfl <;> (first | decide | (unfold rdI; decide) | (unfold rdI gx; decide) | (unfold gx; decide))
  · rcases (by omega : w = 0 ∨ w = 1 ∨ w = 2 ∨ w = 3) with rfl | rfl | rfl | rfl
    · intro h9; exact absurd h9 (by (first | decide | (unfold rdI; decide) | (unfold rdI gx; decide) | (unfold gx; decide)))
    · exact fun _ => ⟨0, by (first | decide | (unfold rdI; decide) | (unfold rdI gx; decide) | (unfold gx; decide))⟩
    · exact fun _ => ⟨1, by (first | decide | (unfold rdI; decide) | (unfold rdI gx; decide) | (unfold gx; decide))⟩
    · exact fun _ => ⟨3, by (first | decide | (unfold rdI; decide) | (unfold rdI gx; decide) | (unfold gx; decide))⟩
  · simp only [List.length_cons, List.length_nil] at b
    rcases (by omega : i = 0 ∨ i = 1 ∨ i = 2 ∨ i = 3 ∨ i = 4) with rfl | rfl | rfl | rfl | rfl <;> (first | decide | (unfold rdI; decide) | (unfold rdI gx; decide) | (unfold gx; decide))
theorem awk13_bk {bs : List Int} (h : BK 4 [(0, 1), (0, 2), (2, 1), (1, 3), (2, 3)] [0, 1, 1, 2] bs) : rdI bs 3 = 3 := by
  have h1 := h.bk 3 (by (first | decide | (unfold rdI; decide) | (unfold rdI gx; decide) | (unfold gx; decide))) (by (first | decide | (unfold rdI; decide) | (unfold rdI gx; decide) | (unfold gx; decide))) (by (first | decide | (unfold rdI; decide) | (unfold rdI gx; decide) | (unfold gx; decide)))
  have h2 := h.le 3 (by (first | decide | (unfold rdI; decide) | (unfold rdI gx; decide) | (unfold gx; decide))) (by (first | decide | (unfold rdI; decide) | (unfold rdI gx; decide) | (unfold gx; decide))) (by (first | decide | (unfold rdI; decide) | (unfold rdI gx; decide) | (unfold gx; decide))) (by (first | decide | (unfold rdI; decide) | (unfold rdI gx; decide) | (unfold gx; decide)))
  have e : (gx ([(0, 1), (0, 2), (2, 1), (1, 3), (2, 3)] : List (Int × Int)) 3).2 = 3 := by (first | decide | (unfold rdI; decide) | (unfold rdI gx; decide) | (unfold gx; decide))
  rw [e] at h2
  have h3 := h1.2.2.1
  rcases (by omega : rdI bs 3 = 0 ∨ rdI bs 3 = 1 ∨ rdI bs 3 = 2 ∨ rdI bs 3 = 3) with h | h | h | h
  · rw [h] at h3; exact absurd h3 (by (first | decide | (unfold rdI; decide) | (unfold rdI gx; decide) | (unfold gx; decide)))
  · rw [h] at h3; exact absurd h3 (by (first | decide | (unfold rdI; decide) | (unfold rdI gx; decide) | (unfold gx; decide)))
  · rw [h] at h3; exact absurd h3 (by (first | decide | (unfold rdI; decide) | (unfold rdI gx; decide) | (unfold gx; decide)))
  · exact h
theorem awk13_lay : layr [0, 1, 1, 2] 1 4 = [1, 2] := by unfold layr rdI; decide
theorem awk13_far : farth [0, 1, 1, 2] = 2 := by unfold farth; decide
theorem awk13_fine : Fine 4 [(0, 1), (0, 2), (2, 1), (1, 3), (2, 3)] := by unfold Fine; decide
theorem farth_nil : farth [] = -1 := by unfold farth; rfl

set_option maxRecDepth 100000 in
set_option maxHeartbeats 1000000 in
theorem awake13 (W : World) : Calls Try.prog 29 #[] W fun e W' => e = .returned (.bool true) ∧ St W (owns []) W' [] := by
  have HS : St W (owns []) W [] := St.start W _
  refine calls_enter [undef, undef, undef, undef, undef, undef, undef, undef, undef, undef, undef, undef, undef, undef, undef, undef, undef, undef, undef, undef, undef, undef, undef, undef, undef, undef, undef, undef, undef, undef, undef, undef, undef, undef, undef, undef, undef, undef, undef] Try.func29 rfl (by kernel_rfl) ?_
  refine wp_seq ?_
  refine wp_region_lit ?_
  refine ql (.bool false) (by kernel_rfl) (by kernel_rfl) ?_
  refine wpList_nil ?_
  refine x_then ?_
  refine wp_seq ?_
  refine wp_region_lit ?_
  refine ql (.agg #[.int .i64 0, .int .i64 1]) (by kernel_rfl) (by kernel_rfl) ?_
  refine ql (.agg #[.int .i64 0, .int .i64 2]) (by kernel_rfl) (by kernel_rfl) ?_
  refine ql (.agg #[.int .i64 2, .int .i64 1]) (by kernel_rfl) (by kernel_rfl) ?_
  refine ql (.agg #[.int .i64 1, .int .i64 3]) (by kernel_rfl) (by kernel_rfl) ?_
  refine ql (.agg #[.int .i64 2, .int .i64 3]) (by kernel_rfl) (by kernel_rfl) ?_
  refine kl HS 5 [.int .i64 0, .int .i64 1, .int .i64 0, .int .i64 2, .int .i64 2, .int .i64 1, .int .i64 1, .int .i64 3, .int .i64 2, .int .i64 3] 38 2 (by kernel_rfl) (by kernel_rfl) rfl (by decide) ?_
  intro g1 W2 H_
  replace HS : St W (owns []) W2 [row (some ⟨g1, 0, none⟩) 5 5 (cf arcC ([(0, 1), (0, 2), (2, 1), (1, 3), (2, 3)])) 38 2] := H_.cast_ (by kernel_rfl)
  clear H_
  refine qc (f := 13) (args := #[.int .i64 4, .slice (some ⟨g1, 0, none⟩) 5 5]) (by kernel_rfl) (R_call #[.int .i64 4, .slice (some ⟨g1, 0, none⟩) 5 5] Try.func13 (by kernel_rfl) (by kernel_rfl) (by kernel_rfl)) ?_
  refine (of_yes 4 _ _ ([(0, 1), (0, 2), (2, 1), (1, 3), (2, 3)] : List (Int × Int)) _ (Rd.row HS (i := 0) rfl) (by decide) awk13_chk).mono ?_
  rintro e W3 ⟨g, rfl, H_, hG⟩
  refine ⟨_, rfl, ?_⟩
  replace HS : St W (owns []) W3 [row (some ⟨g1, 0, none⟩) 5 5 (cf arcC ([(0, 1), (0, 2), (2, 1), (1, 3), (2, 3)])) 38 2] := HS.join (F := []) (G := []) H_
  clear H_
  have HB4 := HS
  have hr5 := Rd.row HB4 (i := 0) rfl
  clear HS
  have HS : St W3 (owns []) W3 [] := St.start _ _
  refine ql (.tuple #[.pointer (some ⟨g, 0, none⟩), .int .i64 0]) (by kernel_rfl) (by kernel_rfl) ?_
  refine ql (.pointer (some ⟨g, 0, none⟩)) (by kernel_rfl) (by kernel_rfl) ?_
  refine ql (.int .i64 0) (by kernel_rfl) (by kernel_rfl) ?_
  refine ql (.pointer (some ⟨g, 0, none⟩)) (by kernel_rfl) (by kernel_rfl) ?_
  refine ql (.int .i64 0) (by kernel_rfl) (by kernel_rfl) ?_
  refine wpList_nil ?_
  refine x_then ?_
  refine wp_seq ?_
  refine wp_region_lit ?_
  refine ql (.pointer (some ⟨g, 0, none⟩)) (by kernel_rfl) (by kernel_rfl) ?_
  refine qc (f := 30) (args := #[.pointer (some ⟨g, 0, none⟩), .int .i64 0, .pointer none]) (by kernel_rfl) (R_call #[.pointer (some ⟨g, 0, none⟩), .int .i64 0, .pointer none] Try.func30 (by kernel_rfl) (by kernel_rfl) (by kernel_rfl)) ?_
  refine (fromT g 4 ([(0, 1), (0, 2), (2, 1), (1, 3), (2, 3)]) 0 _ (hG.below (HS.kept.below owns_nil)) (by decide) (by decide)).mono ?_
  rintro e W10 ⟨t6, ds8, bs9, rfl, H_, hTh7, hDh7, hKh7⟩
  refine ⟨_, rfl, ?_⟩
  replace HS : St W3 (owns []) W10 [] := HS.join (F := []) (G := []) H_
  clear H_
  have HB11 := HS
  replace hr5 := hr5.below (HB11.kept.below owns_nil)
  replace hG := hG.below (HB11.kept.below owns_nil)
  clear HS
  have HS : St W10 (owns []) W10 [] := St.start _ _
  obtain rfl := ds_eq awk13_fine hDh7 awk13_ds
  have hb3 := awk13_bk hKh7
  refine ql (.pointer (some ⟨t6, 0, none⟩)) (by kernel_rfl) (by kernel_rfl) ?_
  refine wpList_nil ?_
  refine x_then ?_
  refine wp_seq ?_
  refine wp_region_lit ?_
  refine ql (.int .i64 0) (by kernel_rfl) (by kernel_rfl) ?_
  refine ql (.bool true) (by kernel_rfl) (R_beq (b := ((0 : Int) == 0)) (by kernel_rfl) (by decide)) ?_
  refine ql (.bool true) (by kernel_rfl) (by kernel_rfl) ?_
  refine ql (.pointer (some ⟨t6, 0, none⟩)) (by kernel_rfl) (by kernel_rfl) ?_
  refine qc (f := 31) (args := #[.pointer (some ⟨t6, 0, none⟩), .int .i64 3]) (by kernel_rfl) (R_call #[.pointer (some ⟨t6, 0, none⟩), .int .i64 3] Try.func31 (by kernel_rfl) (by kernel_rfl) (by kernel_rfl)) ?_
  refine (tdist_y t6 ([0, 1, 1, 2]) bs9 _ (hTh7.below (HS.kept.below owns_nil)) 3 (by omega) (by rw [hDh7.ld]; omega)).mono ?_
  rintro e W12 ⟨rfl, H_⟩
  refine ⟨_, rfl, ?_⟩
  replace HS : St W10 (owns []) W12 [] := HS.join (F := []) (G := []) H_
  clear H_
  refine ql (.bool true) (by kernel_rfl) (R_beq (b := (rdI ([0, 1, 1, 2]) 3 == (2 : Int))) (by kernel_rfl) (beq_t (by unfold rdI; rfl))) ?_
  refine ql (.bool true) (by kernel_rfl) (by kernel_rfl) ?_
  refine ql (.bool true) (by kernel_rfl) (by kernel_rfl) ?_
  refine ql (.pointer (some ⟨t6, 0, none⟩)) (by kernel_rfl) (by kernel_rfl) ?_
  refine qc (f := 34) (args := #[.pointer (some ⟨t6, 0, none⟩), .int .i64 3]) (by kernel_rfl) (R_call #[.pointer (some ⟨t6, 0, none⟩), .int .i64 3] Try.func34 (by kernel_rfl) (by kernel_rfl) (by kernel_rfl)) ?_
  refine (tback_y t6 ([0, 1, 1, 2]) bs9 _ (hTh7.below (HS.kept.below owns_nil)) 3 (by omega) (by rw [hDh7.ld]; omega)).mono ?_
  rintro e W13 ⟨rfl, H_⟩
  refine ⟨_, rfl, ?_⟩
  replace HS : St W10 (owns []) W13 [] := HS.join (F := []) (G := []) H_
  clear H_
  refine ql (.bool true) (by kernel_rfl) (R_beq (b := (rdI bs9 3 == (3 : Int))) (by kernel_rfl) (beq_t (hb3))) ?_
  refine ql (.bool true) (by kernel_rfl) (by kernel_rfl) ?_
  refine ql (.bool true) (by kernel_rfl) (by kernel_rfl) ?_
  refine ql (.pointer (some ⟨t6, 0, none⟩)) (by kernel_rfl) (by kernel_rfl) ?_
  refine qc (f := 36) (args := #[.pointer (some ⟨t6, 0, none⟩), .int .i64 1]) (by kernel_rfl) (R_call #[.pointer (some ⟨t6, 0, none⟩), .int .i64 1] Try.func36 (by kernel_rfl) (by kernel_rfl) (by kernel_rfl)) ?_
  refine (tlayer_y t6 ([0, 1, 1, 2]) bs9 _ (hTh7.below (HS.kept.below owns_nil)) 1 (by rw [hDh7.ld]; omega) (by omega)).mono ?_
  rintro e W16 ⟨A14, c15, rfl, H_⟩
  refine ⟨_, rfl, ?_⟩
  replace HS : St W10 (owns []) W16 [row A14 ((layr ([0, 1, 1, 2]) 1 ([0, 1, 1, 2]).length).length) c15 (ci .i64 (layr ([0, 1, 1, 2]) 1 ([0, 1, 1, 2]).length)) 3 1] := HS.join (F := []) (G := [row A14 ((layr ([0, 1, 1, 2]) 1 ([0, 1, 1, 2]).length).length) c15 (ci .i64 (layr ([0, 1, 1, 2]) 1 ([0, 1, 1, 2]).length)) 3 1]) H_
  clear H_
  refine kl HS 2 [.int .i64 1, .int .i64 2] 3 1 (by kernel_rfl) (by kernel_rfl) rfl (by decide) ?_
  intro g17 W18 H_
  replace HS : St W10 (owns []) W18 [row (some ⟨g17, 0, none⟩) 2 2 (ci .i64 ([1, 2])) 3 1, row A14 ((layr ([0, 1, 1, 2]) 1 ([0, 1, 1, 2]).length).length) c15 (ci .i64 (layr ([0, 1, 1, 2]) 1 ([0, 1, 1, 2]).length)) 3 1] := H_.cast_ (by kernel_rfl)
  clear H_
  refine qc (f := 23) (args := #[.slice A14 ((layr ([0, 1, 1, 2]) 1 ([0, 1, 1, 2]).length).length) c15, .slice (some ⟨g17, 0, none⟩) 2 2]) (by kernel_rfl) (R_call #[.slice A14 ((layr ([0, 1, 1, 2]) 1 ([0, 1, 1, 2]).length).length) c15, .slice (some ⟨g17, 0, none⟩) 2 2] Try.func23 (by kernel_rfl) (by kernel_rfl) (by kernel_rfl)) ?_
  refine (same_eq _ _ _ _ (layr ([0, 1, 1, 2]) 1 ([0, 1, 1, 2]).length) ([1, 2]) _ (by first | exact awk13_lay) (Rd.row HS (i := 1) rfl) (Rd.row HS (i := 0) rfl) (by show (layr [0, 1, 1, 2] 1 4).length ≤ _; rw [awk13_lay]; decide)).mono ?_
  rintro e W19 ⟨rfl, H_⟩
  refine ⟨_, rfl, ?_⟩
  replace HS : St W10 (owns []) W19 [row (some ⟨g17, 0, none⟩) 2 2 (ci .i64 ([1, 2])) 3 1, row A14 ((layr ([0, 1, 1, 2]) 1 ([0, 1, 1, 2]).length).length) c15 (ci .i64 (layr ([0, 1, 1, 2]) 1 ([0, 1, 1, 2]).length)) 3 1] := HS.join (F := []) (G := []) H_
  clear H_
  refine ql (.bool true) (by kernel_rfl) (by kernel_rfl) ?_
  refine ql (.bool true) (by kernel_rfl) (by kernel_rfl) ?_
  refine ql (.pointer (some ⟨t6, 0, none⟩)) (by kernel_rfl) (by kernel_rfl) ?_
  refine qc (f := 32) (args := #[.pointer (some ⟨t6, 0, none⟩)]) (by kernel_rfl) (R_call #[.pointer (some ⟨t6, 0, none⟩)] Try.func32 (by kernel_rfl) (by kernel_rfl) (by kernel_rfl)) ?_
  refine (tfar_ t6 ([0, 1, 1, 2]) bs9 _ (hTh7.below (HS.kept.below owns_nil)) (by rw [hDh7.ld]; omega)).mono ?_
  rintro e W20 ⟨rfl, H_⟩
  refine ⟨_, rfl, ?_⟩
  replace HS : St W10 (owns []) W20 [row (some ⟨g17, 0, none⟩) 2 2 (ci .i64 ([1, 2])) 3 1, row A14 ((layr ([0, 1, 1, 2]) 1 ([0, 1, 1, 2]).length).length) c15 (ci .i64 (layr ([0, 1, 1, 2]) 1 ([0, 1, 1, 2]).length)) 3 1] := HS.join (F := []) (G := []) H_
  clear H_
  refine ql (.bool true) (by kernel_rfl) (R_beq (b := (farth ([0, 1, 1, 2]) == (2 : Int))) (by kernel_rfl) (beq_t (awk13_far))) ?_
  refine ql (.bool true) (by kernel_rfl) (by kernel_rfl) ?_
  refine ql (.bool true) (by kernel_rfl) (by kernel_rfl) ?_
  refine wpList_nil ?_
  refine x_then ?_
  refine wp_ret ?_
  refine ret_ (.bool true) (by kernel_rfl) ?_
  replace HS : St W3 (owns []) W20 [row (some ⟨g17, 0, none⟩) 2 2 (ci .i64 ([1, 2])) 3 1, row A14 ((layr ([0, 1, 1, 2]) 1 ([0, 1, 1, 2]).length).length) c15 (ci .i64 (layr ([0, 1, 1, 2]) 1 ([0, 1, 1, 2]).length)) 3 1] := HB11.join (F := []) (G := [row (some ⟨g17, 0, none⟩) 2 2 (ci .i64 ([1, 2])) 3 1, row A14 ((layr ([0, 1, 1, 2]) 1 ([0, 1, 1, 2]).length).length) c15 (ci .i64 (layr ([0, 1, 1, 2]) 1 ([0, 1, 1, 2]).length)) 3 1]) HS
  replace HS : St W (owns []) W20 [row (some ⟨g17, 0, none⟩) 2 2 (ci .i64 ([1, 2])) 3 1, row A14 ((layr ([0, 1, 1, 2]) 1 ([0, 1, 1, 2]).length).length) c15 (ci .i64 (layr ([0, 1, 1, 2]) 1 ([0, 1, 1, 2]).length)) 3 1, row (some ⟨g1, 0, none⟩) 5 5 (cf arcC ([(0, 1), (0, 2), (2, 1), (1, 3), (2, 3)])) 38 2] := HB4.join (F := []) (G := [row (some ⟨g17, 0, none⟩) 2 2 (ci .i64 ([1, 2])) 3 1, row A14 ((layr ([0, 1, 1, 2]) 1 ([0, 1, 1, 2]).length).length) c15 (ci .i64 (layr ([0, 1, 1, 2]) 1 ([0, 1, 1, 2]).length)) 3 1]) HS
  exact ⟨rfl, HS.tail (F := [row (some ⟨g17, 0, none⟩) 2 2 (ci .i64 ([1, 2])) 3 1, row A14 ((layr ([0, 1, 1, 2]) 1 ([0, 1, 1, 2]).length).length) c15 (ci .i64 (layr ([0, 1, 1, 2]) 1 ([0, 1, 1, 2]).length)) 3 1, row (some ⟨g1, 0, none⟩) 5 5 (cf arcC ([(0, 1), (0, 2), (2, 1), (1, 3), (2, 3)])) 38 2])⟩

end Go.Proofs.Ythfpdpjccnnlhaa.GBfsLayers
