/- Written for this claim by gp.py, a program of this session's, over the kit's print. Lean checks it. -/
import Derived.Test.YtdiodmdohkjafaaGSparseNonex0
import Derived.Test.YtdiodmdohkjafaaGSparseNonehx
import Derived.Test.YtdiodmdohkjafaaGSparseNonehspSparseNonea
import Derived.WalkKit
import Derived.StillTailTactics
import Derived.Deep.LoopGhost
import Derived.KernelRfl
import Derived.Deep.OwnRows
import Derived.Laws.OwnMore
import Derived.Laws.MakeOwn
import Derived.Maps.AppendAt
import Derived.OrdersHeld
import Derived.Lib.TrailingZeros
import Derived.Laws.Bits64b
import Derived.Laws.BitsLemmas
import Derived.Laws.Entries
import Derived.RangeFuncWrites
import Derived.RangeFuncLeaves
import Derived.RangeFuncCalls
import Derived.Shelf.Abstract
import Derived.Laws.CopyRow
import Derived.Lib.Overlaps
import Derived.Lib.AppendZerosOnto
import Derived.Lib.SliceRun
import Derived.Laws.IdiomCopy
import Derived.ArgAppend
import Derived.Conc.EntryLaws
import Derived.Maps.OwnSet
import Derived.Maps.Keyed
import Derived.Maps.Views
namespace Go.Proofs.Ytdiodmdohkjafaa.GSparseNone
open Go.RowKit Go.Proofs.YtdiodmdohkjafaaW.PrintWords Go.Proofs.YtdiodmdohkjafaaW.PrintLast Go.Proofs.YtdiodmdohkjafaaW.PrintMore
attribute [local go_sem] max2_int min2_int max_two min_two max_three min_three max_four min_four   -- for this text's walks alone
set_option linter.unusedVariables false
set_option linter.unusedSimpArgs false

--import Derived.WalkKit
--import Derived.StillTailTactics
--import Derived.Deep.LoopGhost
--import Derived.KernelRfl
--import Derived.Deep.OwnRows
--import Derived.Laws.OwnMore
--import Derived.Laws.MakeOwn
--import Derived.Maps.AppendAt
--import Derived.OrdersHeld
--import Derived.Lib.TrailingZeros
--import Derived.Laws.Bits64b
--import Derived.Laws.BitsLemmas
--import Derived.Laws.Entries
--import Derived.RangeFuncWrites
--import Derived.RangeFuncLeaves
--import Derived.RangeFuncCalls
--import Derived.Shelf.Abstract
--import Derived.Laws.CopyRow
--import Derived.Lib.Overlaps
--import Derived.Lib.AppendZerosOnto
--import Derived.Lib.SliceRun
--import Derived.Laws.IdiomCopy
--import Derived.ArgAppend
--import Derived.Conc.EntryLaws
--import Derived.Maps.OwnSet
--import Derived.Maps.Keyed
--import Derived.Maps.Views
attribute [local irreducible] wpStill wpList Code.wp TA
open Go.Shelf

open Go.Shelf

def TabAt64 (W : World) : Prop := ∀ j, j < 64 → W.cell? ⟨0, j, none⟩ = some (.int .u8 ((Lib.deBruijn64tab.getD j 0 : Nat) : Int))

open Go.Shelf

open Go.Shelf

theorem TabAt64.old {W0 W : World} {M : Nat → Prop} {L : List Ent} (h : TabAt64 W0) (HS : St W0 M W L) (h0 : 0 < W0.heap.size) (hm : ¬ M 0) : TabAt64 W := fun j hj => by
  have h1 := h j hj
  unfold World.cell? at h1 ⊢
  rw [HS.kept.block 0 h0 hm]
  exact h1
theorem TabAt64.pos {W : World} (h : TabAt64 W) : 0 < W.heap.size := by
  have h1 := h 0 (by decide)
  unfold World.cell? at h1
  refine Nat.pos_of_ne_zero fun e => ?_
  have hn : W.heap[0]? = none := by rw [Array.getElem?_eq_none_iff]; omega
  rw [hn] at h1; simp at h1
theorem TabAt64.old0 {W0 W : World} {L : List Ent} (h : TabAt64 W0) (HS : St W0 (owns []) W L) : TabAt64 W := h.old HS h.pos (by rintro ⟨e, he, _⟩; cases he)
open Go.Shelf

open Go.Shelf

theorem TabAt64.put {W : World} {l : Nat} {o o' : Obj} (h : TabAt64 W) (hl : W.heap[l]? = some o) (ho : o.isCells = false) : TabAt64 (W.putObj l o') := fun j hj => by
  have hp := h j hj
  obtain ⟨o2, h2, h3⟩ := cells_of_cell hp
  refine (World.cell?_of_block (World.putObj_heap_other (fun e => ?_))).trans hp
  rw [e, hl] at h2; cases h2; rw [ho] at h3; cases h3
theorem TabAt64.below {W W' : World} (h : TabAt64 W) (hb : Below W.heap.size W W') : TabAt64 W' := fun j hj => (hb.cell (World.block_lt_of_cell? W _ (h j hj))).trans (h j hj)
/-- What the iterator over a set reads. -/
def DnT (b g c : Nat) (A : Option Addr) (ws : List Int) (n : Int) (W : World) : Prop := DnI b g c A ws n W ∧ TabAt64 W
theorem DnT.below {b g c : Nat} {A : Option Addr} {ws : List Int} {n : Int} {W W' : World} (h : DnT b g c A ws n W) (hb : Below W.heap.size W W') : DnT b g c A ws n W' := ⟨h.1.tail_ hb, h.2.below hb⟩
theorem DnT.put {b g c : Nat} {A : Option Addr} {ws : List Int} {n : Int} {W : World} {l : Nat} {o o' : Obj} (h : DnT b g c A ws n W) (hl : W.heap[l]? = some o) (ho : o.isCells = false) : DnT b g c A ws n (W.putObj l o') := ⟨h.1.put hl ho, h.2.put hl ho⟩
def DnK (b g c : Nat) (A : Option Addr) (ws : List Int) (n : Int) (W W' : World) : Prop := DnT b g c A ws n W → DnT b g c A ws n W'

open Go.Shelf
theorem DnK.of {b g c : Nat} {A : Option Addr} {ws : List Int} {n : Int} {W X Y : World} (h : DnT b g c A ws n W) (hb : Below W.heap.size X Y) : DnK b g c A ws n X Y := fun ⟨⟨p1, p2, p3, p4⟩, p5⟩ =>
  ⟨⟨(hb.cell (World.block_lt_of_cell? W _ h.1.hb)).trans p1, (hb.cell (World.block_lt_of_cell? W _ h.1.h0)).trans p2, (hb.cell (World.block_lt_of_cell? W _ h.1.h1)).trans p3, fun j v hv => by
    obtain ⟨ad, e, hc⟩ := p4 j v hv
    obtain ⟨ad2, e2, hc2⟩ := h.1.hr j v hv
    rw [e] at e2; cases e2
    exact ⟨ad, e, (hb.cell (World.block_lt_of_cell? W _ hc2)).trans hc⟩⟩, fun j hj => (hb.cell (World.block_lt_of_cell? W _ (h.2 j hj))).trans (p5 j hj)⟩
def DnN (b : Nat) (W : World) : Prop := W.cell? ⟨b, 0, none⟩ = some (.pointer none)
theorem DnN.below {b : Nat} {W W' : World} (h : DnN b W) (hb : Below W.heap.size W W') : DnN b W' := (hb.cell (World.block_lt_of_cell? W _ h)).trans h
def DnNK (b : Nat) (W W' : World) : Prop := DnN b W → DnN b W'
theorem DnNK.of {b : Nat} {W X Y : World} (h : DnN b W) (hb : Below W.heap.size X Y) : DnNK b X Y := fun p => (hb.cell (World.block_lt_of_cell? W _ h)).trans p

set_option maxRecDepth 100000 in
set_option maxHeartbeats 1000000 in
theorem apS {Kp : World → World → Prop} {S_ Sp : List Int → Prop} {N : Nat} (gf : Nat) (lb : Array Value) (W : World) (hen : Enters Try.prog gf) (hseq : SeqStopsK Fence.wide 0 Try.prog gf lb encI Kp S_ Sp N W) (hKt : ∀ {X Y Z : World}, Kp X Y → Kp Y Z → Kp X Z) (hKp : ∀ X Y, Below W.heap.size X Y → Kp X Y) (hN : N ≤ 1000000000) : Calls Try.prog 84 #[.slice none 0 0, .func (.func gf) #[] lb] W fun e W' => ∃ A c xs, S_ xs ∧ e = .returned (.slice A xs.length c) ∧ St W (owns []) W' [row A xs.length c (ci .i64 xs) 3 1] := by
  have HS : St W (owns []) W [] := St.start W _
  refine calls_enterM [.slice none 0 0, .func (.func gf) #[] lb, undef, undef, undef, undef, undef, undef, undef, undef, undef, undef, undef] Try.func84 rfl (by kernel_rfl) ?_
  refine wp_seq ?_
  refine wp_region_lit ?_
  refine kb HS [.slice none 0 0] 22 (fun g => .pointer (some ⟨g, 0, none⟩)) (by kernel_rfl) (by kernel_rfl) ?_
  intro g1 W2 H_
  replace HS : St W (owns []) W2 [blk g1 [.slice none 0 0] 22] := H_
  clear H_
  refine ql (.slice none 0 0) (by kernel_rfl) (by kernel_rfl) ?_
  refine wpList_nil ?_
  refine x_then ?_
  refine wp_seq ?_
  refine wp_seq ?_
  refine wp_region_lit ?_
  refine ql (.func (.func gf) #[] lb) (by kernel_rfl) (by kernel_rfl) ?_
  refine wpList_nil ?_
  refine x_then ?_
  refine wp_block ?_
  replace HS : St W (owns []) W2 [row none 0 0 (ci .i64 ([])) 3 1, blk g1 [.slice none 0 0] 22] := (HS.nilRow 3 1).cast_ (by kernel_rfl)
  replace HS : St W (owns []) W2 [blk g1 [.slice none 0 0] 22, row none 0 0 (ci .i64 ([])) 3 1] := HS.perm (perm_ [1, 0] (by kernel_rfl) rfl)
  have HSb := HS
  refine rangeF (gf := gf) (lb := lb) (m := 0) (by kernel_rfl) hen (seq_later hseq (HS.kept.below owns_nil)) hKt (fun X l_ o_ o2_ hl_ _ _ _ => hKp _ _ (below_put (Nat.le_trans HSb.le hl_)))
    (fun pre w' => ∃ (A : Option Addr) (c : Nat), St W (owns []) w' [blk g1 [.slice A pre.length c] 22, row A pre.length c (ci .i64 pre) 3 1])
    (fun c pre w' => False)
    (fun s_ A_ B_ r_ h_ hg_ hr_ => by obtain ⟨A, c, HS⟩ := h_; exact ⟨A, c, HS.grown (cel_cons blk_cel (cel_cons row_cel cel_nil)) HSb.le hg_ hr_⟩)
    (fun _ _ _ _ _ h_ _ _ => h_)
    (by exact ⟨none, 0, HS⟩)
    (fun x => [.slice none 0 0, .func (.func gf) #[] lb, .pointer (some ⟨g1, 0, none⟩), undef, .slice none 0 0, .int .i64 x, .func (.func gf) #[] lb, .int .i64 x, undef, undef, undef, undef, undef]) ?_ ?_ ?_ ?_
  · intro l x W3 K_ hK_
    refine wp_region_litR (by kernel_rfl) (fun ⟨_, _, h_⟩ => (h_ : False)) ?_
    refine ql (.int .i64 x) (by kernel_rfl) (by kernel_rfl) ?_
    refine wpList_nil ?_
    refine x_then ?_
    exact kk_ (congrArg Fr (by kernel_rfl)) hK_
  · intro l pre x W3 hI_ hlt
    obtain ⟨A, c, HS⟩ := hI_
    have HO := HS
    replace HS := HO.root
    refine wpIn_block ?_
    refine wp_region_litR (by kernel_rfl) (fun ⟨_, _, h_⟩ => (h_ : False)) ?_
    refine ql (.slice A pre.length c) (by kernel_rfl) (R_load (p := ⟨g1, 0, none⟩) (by kernel_rfl) (by kernel_rfl) (by kernel_rfl) (HS.cell (i := 0) (j := 0) rfl rfl)) ?_
    refine ql (.int .i64 x) (by kernel_rfl) (by kernel_rfl) ?_
    refine kl HS 1 [.int .i64 x] 3 1 (by kernel_rfl) (by kernel_rfl) rfl (by decide) ?_
    intro g4 W5 H_
    replace HS : St W3 (owns [blk g1 [.slice A pre.length c] 22, row A pre.length c (ci .i64 pre) 3 1]) W5 [row (some ⟨g4, 0, none⟩) 1 1 (ci .i64 ([x])) 3 1, blk g1 [.slice A pre.length c] 22, row A pre.length c (ci .i64 pre) 3 1] := H_.cast_ (by kernel_rfl)
    clear H_
    obtain ⟨xs9, xs9_⟩ : ∃ z_ : List Int, z_ = pre ++ ([x]) := ⟨_, rfl⟩
    have xs9l : xs9.length = pre.length + 1 := by rw [xs9_, List.length_append] <;> (try simp only [List.length_cons, List.length_nil]) <;> omega
    refine ka1 HS 2 rfl (Src.of_row HS (i := 0) rfl ci_one) [.int .i64 0] 8 xs9.length (ci .i64 xs9) (by omega) (by rw [xs9_, ci_app]) (by kernel_rfl) (by kernel_rfl) (by kernel_rfl) Try.underlying22 (by kernel_rfl) (by kernel_rfl) (by kernel_rfl) (by kernel_rfl) (by decide) (by omega) (by omega) ?_
    intro A6 c7 W8 H_
    replace HS : St W3 (owns [blk g1 [.slice A pre.length c] 22, row A pre.length c (ci .i64 pre) 3 1]) W8 [row (some ⟨g4, 0, none⟩) 1 1 (ci .i64 ([x])) 3 1, blk g1 [.slice A pre.length c] 22, row A6 xs9.length c7 (ci .i64 xs9) 3 1] := H_
    clear H_
    refine ks (v := .slice A6 xs9.length c7) HS 1 rfl (0) [.slice A6 xs9.length c7] (by kernel_rfl) (by kernel_rfl) (by kernel_rfl) (by kernel_rfl) (by kernel_rfl) (one_ (by kernel_rfl)) (Nat.le_of_ble_eq_true rfl) rfl ?_
    intro W10 H_
    replace HS : St W3 (owns [blk g1 [.slice A pre.length c] 22, row A pre.length c (ci .i64 pre) 3 1]) W10 [row (some ⟨g4, 0, none⟩) 1 1 (ci .i64 ([x])) 3 1, blk g1 [.slice A6 xs9.length c7] 22, row A6 xs9.length c7 (ci .i64 xs9) 3 1] := H_
    clear H_
    refine wpList_nil ?_
    refine x_inb ?_
    replace HS := HS.drop1
    subst xs9_
    have HF := HO.unroot HS
    exact og_n (HS.keepsFrom HO (cel_cons blk_cel (cel_cons row_cel cel_nil)) _) (hKp _ _ (HO.belowR HS)) ⟨A6, c7, HF⟩
  · intro D xs W3 hD hS hI_ hdf
    obtain ⟨A, c, HS⟩ := hI_
    replace HS := HS.addD (cel_cons blk_cel (cel_cons row_cel cel_nil)) (Nat.le_trans HSb.le hD) hdf
    refine x_inb ?_
    refine x_then ?_
    refine wp_seq ?_
    refine wp_region_lit ?_
    refine ql (.slice A xs.length c) (by kernel_rfl) (R_load (p := ⟨g1, 0, none⟩) (by kernel_rfl) (by kernel_rfl) (by kernel_rfl) (HS.cell (i := 1) (j := 0) rfl rfl)) ?_
    refine ql (.slice A xs.length c) (by kernel_rfl) (by kernel_rfl) ?_
    refine wpList_nil ?_
    refine x_then ?_
    refine wp_ret ?_
    refine retD_ HS ?_
    clear HS
    intro W11 HS
    refine ⟨.slice A xs.length c, by kernel_rfl, ?_⟩
    replace HS := HS.drop1
    exact ⟨A, c, xs, hS, rfl, HS⟩
  · intro D c pre W3 hD hSp hIx_ hdf
    exact hIx_.elim

set_option maxRecDepth 100000 in
set_option maxHeartbeats 1000000 in
theorem colS {Kp : World → World → Prop} {S_ Sp : List Int → Prop} {N : Nat} (gf : Nat) (lb : Array Value) (W : World) (hen : Enters Try.prog gf) (hseq : SeqStopsK Fence.wide 0 Try.prog gf lb encI Kp S_ Sp N W) (hKt : ∀ {X Y Z : World}, Kp X Y → Kp Y Z → Kp X Z) (hKp : ∀ X Y, Below W.heap.size X Y → Kp X Y) (hN : N ≤ 1000000000) : Calls Try.prog 61 #[.func (.func gf) #[] lb] W fun e W' => ∃ A c xs, S_ xs ∧ e = .returned (.slice A xs.length c) ∧ St W (owns []) W' [row A xs.length c (ci .i64 xs) 3 1] := by
  have HS : St W (owns []) W [] := St.start W _
  refine calls_enter [.func (.func gf) #[] lb, undef, undef, undef, undef] Try.func61 rfl (by kernel_rfl) ?_
  refine wp_seq ?_
  refine wp_region_lit ?_
  refine ql (.slice none 0 0) (by kernel_rfl) (by kernel_rfl) ?_
  refine wpList_nil ?_
  refine x_then ?_
  refine wp_seq ?_
  refine wp_region_lit ?_
  refine ql (.func (.func gf) #[] lb) (by kernel_rfl) (by kernel_rfl) ?_
  refine qc (f := 84) (args := #[.slice none 0 0, .func (.func gf) #[] lb]) (by kernel_rfl) (R_call #[.slice none 0 0, .func (.func gf) #[] lb] Try.func84 (by kernel_rfl) (by kernel_rfl) (by kernel_rfl)) ?_
  refine (apS gf lb _ hen hseq hKt hKp hN).mono ?_
  rintro e W1 ⟨A8, c8, xs8, hS8, rfl, H_⟩
  refine ⟨_, rfl, ?_⟩
  replace HS : St W (owns []) W1 [row A8 xs8.length c8 (ci .i64 xs8) 3 1] := HS.join (F := []) (G := [row A8 xs8.length c8 (ci .i64 xs8) 3 1]) H_
  clear H_
  refine ql (.slice A8 xs8.length c8) (by kernel_rfl) (by kernel_rfl) ?_
  refine wpList_nil ?_
  refine x_then ?_
  refine wp_ret ?_
  refine ret_ (.slice A8 xs8.length c8) (by kernel_rfl) ?_
  exact ⟨A8, c8, xs8, hS8, rfl, HS⟩

open Go.Shelf

set_option maxRecDepth 100000 in
set_option maxHeartbeats 1000000 in
theorem r1same (A B : Option Addr) (c c2 : Nat) (L M : List Int) (W : World) (hr : Rd W A (ci .i64 L)) (hl : L.length ≤ 100000) (hs : Rd W B (ci .i64 M)) (hl2 : M.length ≤ 100000) : Calls Try.prog 25 #[.slice A L.length c, .slice B M.length c2] W fun e W' => e = .returned (.bool (decide (L = M))) ∧ St W (owns []) W' [] := by
  have HS : St W (owns []) W [] := St.start W _
  refine calls_enter [.slice A L.length c, .slice B M.length c2, undef, undef, undef, undef, undef, undef, undef, undef, undef, undef, undef, undef, undef, undef, undef, undef, undef, undef, undef, undef, undef, undef, undef, undef] Try.func25 rfl (by kernel_rfl) ?_
  refine wp_seq ?_
  refine wp_region_lit ?_
  refine ql (.bool false) (by kernel_rfl) (by kernel_rfl) ?_
  refine wpList_nil ?_
  refine x_then ?_
  refine wp_seq ?_
  refine wp_seq ?_
  refine wp_region_lit ?_
  refine ql (.slice A L.length c) (by kernel_rfl) (by kernel_rfl) ?_
  refine ql (.int .i64 (L.length : Int)) (by kernel_rfl) (by kernel_rfl) ?_
  refine ql (.slice B M.length c2) (by kernel_rfl) (by kernel_rfl) ?_
  refine ql (.int .i64 (M.length : Int)) (by kernel_rfl) (by kernel_rfl) ?_
  by_cases hc1 : (L.length : Int) = (M.length : Int)
  · skip
    refine ql (.bool false) (by kernel_rfl) (R_beq (b := ((L.length : Int) != (M.length : Int))) (by kernel_rfl) (bne_f (hc1))) ?_
    refine wpList_nil ?_
    refine x_then ?_
    refine wp_cond_false (by kernel_rfl) ?_
    refine wp_skip ?_
    refine x_then ?_
    refine wp_seq ?_
    refine wp_seq ?_
    refine wp_region_lit ?_
    refine ql (.int .i64 0) (by kernel_rfl) (by kernel_rfl) ?_
    refine wpList_nil ?_
    refine x_then ?_
    refine wp_block ?_
    refine wp_loop_ghost (fun kq a' w' => ∃ (J2 : Nat → Value) (k : Int) , a' = Fr [.slice A L.length c, .slice B M.length c2, undef, undef, (J2 4), .int .i64 k, .slice A L.length c, .int .i64 (L.length : Int), .slice B M.length c2, .int .i64 (M.length : Int), .bool false, (J2 11), (J2 12), (J2 13), (J2 14), (J2 15), (J2 16), (J2 17), (J2 18), (J2 19), (J2 20), (J2 21), (J2 22), (J2 23), (J2 24), (J2 25)] ∧ kq = (L.length - (k).toNat) ∧ (0 ≤ k) ∧ (k ≤ L.length) ∧ (eqTo L M k) ∧ St W (owns []) w' []) (L.length - ((0 : Int)).toNat) ⟨(fun k_ : Nat => List.getD [.slice A L.length c, .slice B M.length c2, undef, undef, .bool false, .int .i64 0, .slice A L.length c, .int .i64 (L.length : Int), .slice B M.length c2, .int .i64 (M.length : Int), .bool false, undef, undef, undef, undef, undef, undef, undef, undef, undef, undef, undef, undef, undef, undef, undef] k_ undef), (0 : Int), congrArg Fr (by kernel_rfl), rfl, by omega, by omega, eqTo_zero, HS⟩ ?_
    clear HS
    intro kq3 a' W4 hrel
    obtain ⟨J2, k, rfl, hk, k0, k1, he, HS⟩ := hrel
    refine wp_seq ?_
    refine wp_seq ?_
    refine wp_region_lit ?_
    refine ql (.int .i64 k) (by kernel_rfl) (by kernel_rfl) ?_
    refine ql (.slice A L.length c) (by kernel_rfl) (by kernel_rfl) ?_
    refine ql (.int .i64 (L.length : Int)) (by kernel_rfl) (by kernel_rfl) ?_
    by_cases hc5 : k < (L.length : Int)
    · skip
      refine ql (.bool true) (by kernel_rfl) (R_bool (p := k < (L.length : Int)) (by kernel_rfl) (hc5)) ?_
      refine wpList_nil ?_
      refine x_then ?_
      refine wp_cond_true (by kernel_rfl) ?_
      refine wp_skip ?_
      refine x_then ?_
      refine wp_seq ?_
      refine wp_block ?_
      refine wp_seq ?_
      refine rg_still HS 8 (by kernel_rfl) (by kernel_rfl) ?_
      intro W6 H_ HK_
      simp only [List.take_succ_cons, List.take_zero, List.drop_succ_cons, List.drop_zero]
      replace HS : St W (owns []) W6 [] := H_
      clear H_
      clear HK_
      refine qs (.slice A L.length c) (by kernel_rfl) (by kernel_rfl) ?_
      refine qs (.int .i64 k) (by kernel_rfl) (by kernel_rfl) ?_
      obtain ⟨ad7, rfl⟩ := Rd.isSome_ hr (by rw [ci_len]; omega)
      refine qs (.pointer (some (ad7.add k.toNat))) (by kernel_rfl) (R_indexA1 (k := .i64) (p := ad7) (n := L.length) (c := c) (i := k) (by kernel_rfl) (by kernel_rfl) Try.underlying22 (by kernel_rfl) (by omega) (by omega)) ?_
      refine qs (.int .i64 (rdI L k)) (by kernel_rfl) (R_load (p := ad7.add k.toNat) (by kernel_rfl) (by kernel_rfl) (by kernel_rfl) (HS.old0 (hr.at_ (ci_rd (i := k) (by omega) (by omega))))) ?_
      refine qs (.slice B M.length c2) (by kernel_rfl) (by kernel_rfl) ?_
      refine qs (.int .i64 k) (by kernel_rfl) (by kernel_rfl) ?_
      obtain ⟨ad8, rfl⟩ := Rd.isSome_ hs (by rw [ci_len]; omega)
      refine qs (.pointer (some (ad8.add k.toNat))) (by kernel_rfl) (R_indexA1 (k := .i64) (p := ad8) (n := M.length) (c := c2) (i := k) (by kernel_rfl) (by kernel_rfl) Try.underlying22 (by kernel_rfl) (by omega) (by omega)) ?_
      refine qs (.int .i64 (rdI M k)) (by kernel_rfl) (R_load (p := ad8.add k.toNat) (by kernel_rfl) (by kernel_rfl) (by kernel_rfl) (HS.old0 (hs.at_ (ci_rd (i := k) (by omega) (by omega))))) ?_
      refine wpStill_nil ?_
      by_cases hc9 : (rdI L k) = (rdI M k)
      · skip
        refine ql (.bool false) (by kernel_rfl) (R_beq (b := (rdI L k != rdI M k)) (by kernel_rfl) (bne_f (hc9))) ?_
        refine wpList_nil ?_
        refine x_then ?_
        refine wp_cond_false (by kernel_rfl) ?_
        refine wp_skip ?_
        refine x_inb ?_
        refine x_then ?_
        refine wp_region_lit ?_
        refine ql (.int .i64 k) (by kernel_rfl) (by kernel_rfl) ?_
        refine ql (.int .i64 (k + 1)) (by kernel_rfl) (R_int (by kernel_rfl) (w64 (by omega))) ?_
        refine ql (.int .i64 (k + 1)) (by kernel_rfl) (by kernel_rfl) ?_
        refine wpList_nil ?_
        refine x_then ?_
        exact ⟨L.length - (k + 1).toNat, by omega, (fun k_ : Nat => List.getD [.slice (some ad7) L.length c, .slice (some ad8) M.length c2, undef, undef, (J2 4), .int .i64 (k + 1), .slice (some ad7) L.length c, .int .i64 (L.length : Int), .slice (some ad8) M.length c2, .int .i64 (M.length : Int), .bool false, .int .i64 k, .slice (some ad7) L.length c, .int .i64 (L.length : Int), .bool true, .int .i64 k, .int .i64 (k + 1), .slice (some ad7) L.length c, .int .i64 k, .pointer (some (ad7.add k.toNat)), .int .i64 (rdI L k), .slice (some ad8) M.length c2, .int .i64 k, .pointer (some (ad8.add k.toNat)), .int .i64 (rdI M k), .bool false] k_ undef), k + 1, congrArg Fr (by kernel_rfl), rfl, by omega, by omega, eqTo_step he (by first | assumption | omega), HS⟩
      · skip
        refine ql (.bool true) (by kernel_rfl) (R_beq (b := (rdI L k != rdI M k)) (by kernel_rfl) (bne_t (hc9))) ?_
        refine wpList_nil ?_
        refine x_then ?_
        refine wp_cond_true (by kernel_rfl) ?_
        refine wp_seq ?_
        refine wp_region_lit ?_
        refine ql (.bool false) (by kernel_rfl) (by kernel_rfl) ?_
        refine wpList_nil ?_
        refine x_then ?_
        refine wp_ret ?_
        refine x_inbR ?_
        refine x_thenR ?_
        refine x_thenR ?_
        refine x_inbR ?_
        refine x_thenR ?_
        refine ret_ (.bool false) (by kernel_rfl) ?_
        exact ⟨by rw [decide_eq_false (by intro h_; subst h_; omega)], HS⟩
    · skip
      refine ql (.bool false) (by kernel_rfl) (R_nbool (p := k < (L.length : Int)) (by kernel_rfl) (hc5)) ?_
      refine wpList_nil ?_
      refine x_then ?_
      refine wp_cond_false (by kernel_rfl) ?_
      refine wp_exit ?_
      refine x_thenE ?_
      refine x_thenE ?_
      refine x_hit ?_
      refine x_then ?_
      refine wp_seq ?_
      refine wp_region_lit ?_
      refine ql (.bool true) (by kernel_rfl) (by kernel_rfl) ?_
      refine wpList_nil ?_
      refine x_then ?_
      refine wp_ret ?_
      refine ret_ (.bool true) (by kernel_rfl) ?_
      have hk9 : k = L.length := by omega
      rw [hk9] at he
      have hq := eqTo_all (by omega) he
      exact ⟨by rw [decide_eq_true hq], HS⟩
  · skip
    refine ql (.bool true) (by kernel_rfl) (R_beq (b := ((L.length : Int) != (M.length : Int))) (by kernel_rfl) (bne_t (hc1))) ?_
    refine wpList_nil ?_
    refine x_then ?_
    refine wp_cond_true (by kernel_rfl) ?_
    refine wp_seq ?_
    refine wp_region_lit ?_
    refine ql (.bool false) (by kernel_rfl) (by kernel_rfl) ?_
    refine wpList_nil ?_
    refine x_then ?_
    refine wp_ret ?_
    refine x_thenR ?_
    refine ret_ (.bool false) (by kernel_rfl) ?_
    exact ⟨by rw [decide_eq_false (by intro h_; subst h_; omega)], HS⟩

open Go.Shelf

open Go.Shelf

set_option maxRecDepth 100000 in
set_option maxHeartbeats 1000000 in
theorem cnan (x : Int) (W : World) : Calls Try.prog 95 #[.int .i32 x] W fun e W' => e = .returned (.bool false) ∧ St W (owns []) W' [] := by
  have HS : St W (owns []) W [] := St.start W _
  refine calls_enter [.int .i32 x, undef, undef, undef, undef, undef] Try.func95 rfl (by kernel_rfl) ?_
  refine wp_seq ?_
  refine wp_region_lit ?_
  refine ql (.bool false) (by kernel_rfl) (by kernel_rfl) ?_
  refine wpList_nil ?_
  refine x_then ?_
  refine wp_seq ?_
  refine wp_region_lit ?_
  refine ql (.int .i32 x) (by kernel_rfl) (by kernel_rfl) ?_
  refine ql (.int .i32 x) (by kernel_rfl) (by kernel_rfl) ?_
  refine ql (.bool false) (by kernel_rfl) (R_beq (b := (x != x)) (by kernel_rfl) (bne_f (by omega))) ?_
  refine ql (.bool false) (by kernel_rfl) (by kernel_rfl) ?_
  refine wpList_nil ?_
  refine x_then ?_
  refine wp_ret ?_
  refine ret_ (.bool false) (by kernel_rfl) ?_
  exact ⟨rfl, HS⟩

set_option maxRecDepth 100000 in
set_option maxHeartbeats 1000000 in
theorem snan (x : Int) (W : World) : Calls Try.prog 91 #[.int .i32 x] W fun e W' => e = .returned (.bool false) ∧ St W (owns []) W' [] := by
  have HS : St W (owns []) W [] := St.start W _
  refine calls_enter [.int .i32 x, undef, undef, undef, undef, undef] Try.func91 rfl (by kernel_rfl) ?_
  refine wp_seq ?_
  refine wp_region_lit ?_
  refine ql (.bool false) (by kernel_rfl) (by kernel_rfl) ?_
  refine wpList_nil ?_
  refine x_then ?_
  refine wp_seq ?_
  refine wp_region_lit ?_
  refine ql (.int .i32 x) (by kernel_rfl) (by kernel_rfl) ?_
  refine ql (.int .i32 x) (by kernel_rfl) (by kernel_rfl) ?_
  refine ql (.bool false) (by kernel_rfl) (R_beq (b := (x != x)) (by kernel_rfl) (bne_f (by omega))) ?_
  refine ql (.bool false) (by kernel_rfl) (by kernel_rfl) ?_
  refine wpList_nil ?_
  refine x_then ?_
  refine wp_ret ?_
  refine ret_ (.bool false) (by kernel_rfl) ?_
  exact ⟨rfl, HS⟩

set_option maxRecDepth 100000 in
set_option maxHeartbeats 1000000 in
theorem cless (x y : Int) (W : World) : Calls Try.prog 90 #[.int .i32 x, .int .i32 y] W fun e W' => e = .returned (.bool (decide (x < y))) ∧ St W (owns []) W' [] := by
  have HS : St W (owns []) W [] := St.start W _
  refine calls_enter [.int .i32 x, .int .i32 y, undef, undef, undef, undef, undef, undef, undef, undef, undef, undef, undef, undef, undef, undef, undef] Try.func90 rfl (by kernel_rfl) ?_
  refine wp_seq ?_
  refine wp_region_lit ?_
  refine ql (.bool false) (by kernel_rfl) (by kernel_rfl) ?_
  refine wpList_nil ?_
  refine x_then ?_
  refine wp_seq ?_
  refine wp_region_lit ?_
  refine ql (.int .i32 x) (by kernel_rfl) (by kernel_rfl) ?_
  refine qc (f := 95) (args := #[.int .i32 x]) (by kernel_rfl) (R_call #[.int .i32 x] Try.func95 (by kernel_rfl) (by kernel_rfl) (by kernel_rfl)) ?_
  refine (cnan x _).mono ?_
  rintro e W1 ⟨rfl, H_⟩
  refine ⟨_, rfl, ?_⟩
  replace HS : St W (owns []) W1 [] := HS.join (F := []) (G := []) H_
  clear H_
  refine ql (.bool false) (by kernel_rfl) (by kernel_rfl) ?_
  refine qln (by kernel_rfl) ?_
  refine qln (by kernel_rfl) ?_
  refine qln (by kernel_rfl) ?_
  refine ql (.bool false) (by kernel_rfl) (by kernel_rfl) ?_
  refine ql (.bool false) (by kernel_rfl) (by kernel_rfl) ?_
  refine ql (.int .i32 x) (by kernel_rfl) (by kernel_rfl) ?_
  refine ql (.int .i32 y) (by kernel_rfl) (by kernel_rfl) ?_
  by_cases hc2 : x < y
  · skip
    refine ql (.bool true) (by kernel_rfl) (R_bool (p := x < y) (by kernel_rfl) (hc2)) ?_
    refine ql (.bool true) (by kernel_rfl) (by kernel_rfl) ?_
    refine ql (.bool true) (by kernel_rfl) (by kernel_rfl) ?_
    refine wpList_nil ?_
    refine x_then ?_
    refine wp_ret ?_
    refine ret_ (.bool true) (by kernel_rfl) ?_
    exact ⟨by rw [decide_eq_true hc2], HS⟩
  · skip
    refine ql (.bool false) (by kernel_rfl) (R_nbool (p := x < y) (by kernel_rfl) (hc2)) ?_
    refine ql (.bool false) (by kernel_rfl) (by kernel_rfl) ?_
    refine ql (.bool false) (by kernel_rfl) (by kernel_rfl) ?_
    refine wpList_nil ?_
    refine x_then ?_
    refine wp_ret ?_
    refine ret_ (.bool false) (by kernel_rfl) ?_
    exact ⟨by rw [decide_eq_false hc2], HS⟩

set_option maxRecDepth 100000 in
set_option maxHeartbeats 1000000 in
theorem sbs (A : Option Addr) (c : Nat) (L : List Int) (x : Int) (W : World) (hr : Rd W A (ci .i32 L)) (hl : L.length ≤ 100000) (hs : L.Pairwise (· < ·)) : Calls Try.prog 76 #[.slice A L.length c, .int .i32 x] W fun e W' => e = .returned (.tuple #[.int .i64 (rk L x), .bool (decide (x ∈ L))]) ∧ St W (owns []) W' [] := by
  have HS : St W (owns []) W [] := St.start W _
  refine calls_enter ((.slice A L.length c) :: (.int .i32 x) :: undef :: undef :: undef :: undef :: undef :: undef :: undef :: undef :: undef :: undef :: undef :: undef :: undef :: undef :: undef :: undef :: undef :: undef :: undef :: undef :: undef :: undef :: undef :: undef :: undef :: undef :: undef :: undef :: undef :: undef :: undef :: undef :: undef :: undef :: undef :: undef :: undef :: undef :: undef :: undef :: undef :: undef :: undef :: undef :: undef :: undef :: undef :: undef :: undef :: undef :: undef :: undef :: []) Try.func76 rfl (by kernel_rfl) ?_
  refine wp_seq ?_
  refine wp_region_lit ?_
  refine ql (.int .i64 0) (by kernel_rfl) (by kernel_rfl) ?_
  refine ql (.bool false) (by kernel_rfl) (by kernel_rfl) ?_
  refine wpList_nil ?_
  refine x_then ?_
  refine wp_seq ?_
  refine wp_region_lit ?_
  refine ql (.slice A L.length c) (by kernel_rfl) (by kernel_rfl) ?_
  refine ql (.int .i64 (L.length : Int)) (by kernel_rfl) (by kernel_rfl) ?_
  refine ql (.int .i64 (L.length : Int)) (by kernel_rfl) (by kernel_rfl) ?_
  refine wpList_nil ?_
  refine x_then ?_
  refine wp_seq ?_
  refine wp_region_lit ?_
  refine ql (.int .i64 (L.length : Int)) (by kernel_rfl) (by kernel_rfl) ?_
  refine ql (.int .i64 0) (by kernel_rfl) (by kernel_rfl) ?_
  refine ql (.int .i64 (L.length : Int)) (by kernel_rfl) (by kernel_rfl) ?_
  refine wpList_nil ?_
  refine x_then ?_
  refine wp_seq ?_
  refine wp_block ?_
  refine wp_loop_ghost (fun kq a' w' => ∃ (J1 : Nat → Value) (i : Int) (j : Int) , a' = Fr ((.slice A L.length c) :: (.int .i32 x) :: undef :: undef :: (.int .i64 0) :: (.bool false) :: (.int .i64 (L.length : Int)) :: (.int .i64 i) :: (.int .i64 j) :: ((J1 9)) :: (.slice A L.length c) :: (.int .i64 (L.length : Int)) :: (.int .i64 (L.length : Int)) :: ((J1 13)) :: ((J1 14)) :: ((J1 15)) :: ((J1 16)) :: ((J1 17)) :: ((J1 18)) :: ((J1 19)) :: ((J1 20)) :: ((J1 21)) :: ((J1 22)) :: ((J1 23)) :: ((J1 24)) :: ((J1 25)) :: ((J1 26)) :: ((J1 27)) :: ((J1 28)) :: ((J1 29)) :: ((J1 30)) :: undef :: undef :: undef :: undef :: undef :: undef :: undef :: undef :: undef :: undef :: undef :: undef :: undef :: undef :: undef :: undef :: undef :: undef :: undef :: undef :: undef :: undef :: undef :: []) ∧ kq = ((j).toNat - (i).toNat) ∧ (BsP L x i j) ∧ St W (owns []) w' []) (((L.length : Int)).toNat - ((0 : Int)).toNat) ⟨(fun k_ : Nat => List.getD ((.slice A L.length c) :: (.int .i32 x) :: undef :: undef :: (.int .i64 0) :: (.bool false) :: (.int .i64 (L.length : Int)) :: (.int .i64 0) :: (.int .i64 (L.length : Int)) :: undef :: (.slice A L.length c) :: (.int .i64 (L.length : Int)) :: (.int .i64 (L.length : Int)) :: undef :: undef :: undef :: undef :: undef :: undef :: undef :: undef :: undef :: undef :: undef :: undef :: undef :: undef :: undef :: undef :: undef :: undef :: undef :: undef :: undef :: undef :: undef :: undef :: undef :: undef :: undef :: undef :: undef :: undef :: undef :: undef :: undef :: undef :: undef :: undef :: undef :: undef :: undef :: undef :: undef :: []) k_ undef), (0 : Int), (L.length : Int), congrArg Fr (by kernel_rfl), rfl, bs_start L x, HS⟩ ?_
  clear HS
  intro kq2 a' W3 hrel
  obtain ⟨J1, i, j, rfl, hk, hP, HS⟩ := hrel
  obtain ⟨hp1, hp2, hp3, _, _⟩ := id hP
  refine wp_seq ?_
  refine wp_seq ?_
  refine wp_region_lit ?_
  refine ql (.int .i64 i) (by kernel_rfl) (by kernel_rfl) ?_
  refine ql (.int .i64 j) (by kernel_rfl) (by kernel_rfl) ?_
  by_cases hc4 : i < j
  · skip
    refine ql (.bool true) (by kernel_rfl) (R_bool (p := i < j) (by kernel_rfl) (hc4)) ?_
    refine wpList_nil ?_
    refine x_then ?_
    refine wp_cond_true (by kernel_rfl) ?_
    refine wp_skip ?_
    refine x_then ?_
    refine wp_block ?_
    refine wp_seq ?_
    have hm := bs_mid hP.1 (by assumption)
    refine wp_region_lit ?_
    refine ql (.int .i64 i) (by kernel_rfl) (by kernel_rfl) ?_
    refine ql (.int .i64 j) (by kernel_rfl) (by kernel_rfl) ?_
    refine ql (.int .i64 (i + j)) (by kernel_rfl) (R_int (by kernel_rfl) (w64 (by omega))) ?_
    refine ql (.int .u64 (i + j)) (by kernel_rfl) (R_int (by kernel_rfl) (wu64 (by omega))) ?_
    refine ql (.int .u64 ((i + j) / 2)) (by kernel_rfl) (R_eq (R_shr (i := i + j) (j := 1) (k2 := .u64) (by kernel_rfl) (by kernel_rfl) ⟨by omega, by omega⟩ (by omega) (by omega)) (by rw [shr1 (by omega)])) ?_
    refine ql (.int .i64 ((i + j) / 2)) (by kernel_rfl) (R_int (by kernel_rfl) (w64 (by omega))) ?_
    refine ql (.int .i64 ((i + j) / 2)) (by kernel_rfl) (by kernel_rfl) ?_
    refine wpList_nil ?_
    refine x_then ?_
    refine wp_seq ?_
    refine wp_region_lit ?_
    refine ql (.slice A L.length c) (by kernel_rfl) (by kernel_rfl) ?_
    refine ql (.int .i64 ((i + j) / 2)) (by kernel_rfl) (by kernel_rfl) ?_
    obtain ⟨ad5, rfl⟩ := Rd.isSome_ hr (by rw [ci_len]; omega)
    refine ql (.pointer (some (ad5.add ((i + j) / 2).toNat))) (by kernel_rfl) (R_indexA1 (k := .i64) (p := ad5) (n := L.length) (c := c) (i := (i + j) / 2) (by kernel_rfl) (by kernel_rfl) Try.underlying75 (by kernel_rfl) (by omega) (by omega)) ?_
    refine ql (.int .i32 (rdI L ((i + j) / 2))) (by kernel_rfl) (R_load (p := ad5.add ((i + j) / 2).toNat) (by kernel_rfl) (by kernel_rfl) (by kernel_rfl) (HS.old0 (hr.at_ (ci_rd (i := (i + j) / 2) (by omega) (by omega))))) ?_
    refine ql (.int .i32 x) (by kernel_rfl) (by kernel_rfl) ?_
    refine qc (f := 90) (args := #[.int .i32 (rdI L ((i + j) / 2)), .int .i32 x]) (by kernel_rfl) (R_call #[.int .i32 (rdI L ((i + j) / 2)), .int .i32 x] Try.func90 (by kernel_rfl) (by kernel_rfl) (by kernel_rfl)) ?_
    by_cases hv : rdI L ((i + j) / 2) < x
    · skip
      have hdx : decide (rdI L ((i + j) / 2) < x) = true := decide_eq_true hv
      refine (cless (rdI L ((i + j) / 2)) x _).mono ?_
      rintro e W6 ⟨rfl, H_⟩
      rw [hdx]
      refine ⟨_, rfl, ?_⟩
      replace HS : St W (owns []) W6 [] := HS.join (F := []) (G := []) H_
      clear H_
      refine wpList_nil ?_
      refine x_then ?_
      refine wp_cond_true (by kernel_rfl) ?_
      refine wp_region_lit ?_
      refine ql (.int .i64 ((i + j) / 2)) (by kernel_rfl) (by kernel_rfl) ?_
      refine ql (.int .i64 (((i + j) / 2) + 1)) (by kernel_rfl) (R_int (by kernel_rfl) (w64 (by omega))) ?_
      refine ql (.int .i64 (((i + j) / 2) + 1)) (by kernel_rfl) (by kernel_rfl) ?_
      refine wpList_nil ?_
      refine x_inb ?_
      refine x_then ?_
      exact ⟨(j).toNat - (((i + j) / 2) + 1).toNat, by omega, (fun k_ : Nat => List.getD ((.slice (some ad5) L.length c) :: (.int .i32 x) :: undef :: undef :: (.int .i64 0) :: (.bool false) :: (.int .i64 (L.length : Int)) :: (.int .i64 (((i + j) / 2) + 1)) :: (.int .i64 j) :: (.int .i64 ((i + j) / 2)) :: (.slice (some ad5) L.length c) :: (.int .i64 (L.length : Int)) :: (.int .i64 (L.length : Int)) :: (.int .i64 i) :: (.int .i64 j) :: (.bool true) :: (.int .i64 i) :: (.int .i64 j) :: (.int .i64 (i + j)) :: (.int .u64 (i + j)) :: (.int .u64 ((i + j) / 2)) :: (.int .i64 ((i + j) / 2)) :: (.slice (some ad5) L.length c) :: (.int .i64 ((i + j) / 2)) :: (.pointer (some (ad5.add ((i + j) / 2).toNat))) :: (.int .i32 (rdI L ((i + j) / 2))) :: (.int .i32 x) :: (.bool true) :: (.int .i64 ((i + j) / 2)) :: (.int .i64 (((i + j) / 2) + 1)) :: ((J1 30)) :: undef :: undef :: undef :: undef :: undef :: undef :: undef :: undef :: undef :: undef :: undef :: undef :: undef :: undef :: undef :: undef :: undef :: undef :: undef :: undef :: undef :: undef :: undef :: []) k_ undef), ((i + j) / 2) + 1, j, congrArg Fr (by kernel_rfl), rfl, (bs_right hP hs hm.1 hm.2 hv), HS⟩
    · skip
      have hdx : decide (rdI L ((i + j) / 2) < x) = false := decide_eq_false hv
      refine (cless (rdI L ((i + j) / 2)) x _).mono ?_
      rintro e W7 ⟨rfl, H_⟩
      rw [hdx]
      refine ⟨_, rfl, ?_⟩
      replace HS : St W (owns []) W7 [] := HS.join (F := []) (G := []) H_
      clear H_
      refine wpList_nil ?_
      refine x_then ?_
      refine wp_cond_false (by kernel_rfl) ?_
      refine wp_region_lit ?_
      refine ql (.int .i64 ((i + j) / 2)) (by kernel_rfl) (by kernel_rfl) ?_
      refine ql (.int .i64 ((i + j) / 2)) (by kernel_rfl) (by kernel_rfl) ?_
      refine wpList_nil ?_
      refine x_inb ?_
      refine x_then ?_
      exact ⟨((i + j) / 2).toNat - (i).toNat, by omega, (fun k_ : Nat => List.getD ((.slice (some ad5) L.length c) :: (.int .i32 x) :: undef :: undef :: (.int .i64 0) :: (.bool false) :: (.int .i64 (L.length : Int)) :: (.int .i64 i) :: (.int .i64 ((i + j) / 2)) :: (.int .i64 ((i + j) / 2)) :: (.slice (some ad5) L.length c) :: (.int .i64 (L.length : Int)) :: (.int .i64 (L.length : Int)) :: (.int .i64 i) :: (.int .i64 j) :: (.bool true) :: (.int .i64 i) :: (.int .i64 j) :: (.int .i64 (i + j)) :: (.int .u64 (i + j)) :: (.int .u64 ((i + j) / 2)) :: (.int .i64 ((i + j) / 2)) :: (.slice (some ad5) L.length c) :: (.int .i64 ((i + j) / 2)) :: (.pointer (some (ad5.add ((i + j) / 2).toNat))) :: (.int .i32 (rdI L ((i + j) / 2))) :: (.int .i32 x) :: (.bool false) :: ((J1 28)) :: ((J1 29)) :: (.int .i64 ((i + j) / 2)) :: undef :: undef :: undef :: undef :: undef :: undef :: undef :: undef :: undef :: undef :: undef :: undef :: undef :: undef :: undef :: undef :: undef :: undef :: undef :: undef :: undef :: undef :: undef :: []) k_ undef), i, (i + j) / 2, congrArg Fr (by kernel_rfl), rfl, (bs_left hP hs hm.1 hm.2 hv), HS⟩
  · skip
    refine ql (.bool false) (by kernel_rfl) (R_nbool (p := i < j) (by kernel_rfl) (hc4)) ?_
    refine wpList_nil ?_
    refine x_then ?_
    refine wp_cond_false (by kernel_rfl) ?_
    refine wp_exit ?_
    refine x_thenE ?_
    refine x_thenE ?_
    refine x_hit ?_
    refine x_then ?_
    refine wp_seq ?_
    obtain rfl : i = j := by omega
    refine wp_region_lit ?_
    refine ql (.int .i64 i) (by kernel_rfl) (by kernel_rfl) ?_
    refine ql (.int .i64 i) (by kernel_rfl) (by kernel_rfl) ?_
    refine ql (.int .i64 (L.length : Int)) (by kernel_rfl) (by kernel_rfl) ?_
    by_cases hc8 : i < (L.length : Int)
    · skip
      refine ql (.bool true) (by kernel_rfl) (R_bool (p := i < (L.length : Int)) (by kernel_rfl) (hc8)) ?_
      refine ql (.bool true) (by kernel_rfl) (by kernel_rfl) ?_
      refine ql (.slice A L.length c) (by kernel_rfl) (by kernel_rfl) ?_
      refine ql (.int .i64 i) (by kernel_rfl) (by kernel_rfl) ?_
      obtain ⟨ad9, rfl⟩ := Rd.isSome_ hr (by rw [ci_len]; omega)
      refine ql (.pointer (some (ad9.add i.toNat))) (by kernel_rfl) (R_indexA1 (k := .i64) (p := ad9) (n := L.length) (c := c) (i := i) (by kernel_rfl) (by kernel_rfl) Try.underlying75 (by kernel_rfl) (by omega) (by omega)) ?_
      refine ql (.int .i32 (rdI L i)) (by kernel_rfl) (R_load (p := ad9.add i.toNat) (by kernel_rfl) (by kernel_rfl) (by kernel_rfl) (HS.old0 (hr.at_ (ci_rd (i := i) (by omega) (by omega))))) ?_
      refine ql (.int .i32 x) (by kernel_rfl) (by kernel_rfl) ?_
      by_cases hc10 : (rdI L i) = x
      · skip
        refine ql (.bool true) (by kernel_rfl) (R_beq (b := (rdI L i == x)) (by kernel_rfl) (beq_t (hc10))) ?_
        refine ql (.bool true) (by kernel_rfl) (by kernel_rfl) ?_
        refine qln (by kernel_rfl) ?_
        refine qln (by kernel_rfl) ?_
        refine qln (by kernel_rfl) ?_
        refine qln (by kernel_rfl) ?_
        refine qln (by kernel_rfl) ?_
        refine qln (by kernel_rfl) ?_
        refine qln (by kernel_rfl) ?_
        refine qln (by kernel_rfl) ?_
        refine qln (by kernel_rfl) ?_
        refine ql (.bool true) (by kernel_rfl) (by kernel_rfl) ?_
        refine ql (.bool true) (by kernel_rfl) (by kernel_rfl) ?_
        refine ql (.int .i64 i) (by kernel_rfl) (by kernel_rfl) ?_
        refine ql (.bool true) (by kernel_rfl) (by kernel_rfl) ?_
        refine wpList_nil ?_
        refine x_then ?_
        refine wp_ret ?_
        refine ret_ (.tuple #[.int .i64 i, .bool true]) (by kernel_rfl) ?_
        exact ⟨by rw [rk_at hP, decide_eq_true ((bs_has hP hs (by omega)).2 hc10)], HS⟩
      · skip
        refine ql (.bool false) (by kernel_rfl) (R_beq (b := (rdI L i == x)) (by kernel_rfl) (beq_f (hc10))) ?_
        refine ql (.bool false) (by kernel_rfl) (by kernel_rfl) ?_
        refine ql (.slice (some ad9) L.length c) (by kernel_rfl) (by kernel_rfl) ?_
        refine ql (.int .i64 i) (by kernel_rfl) (by kernel_rfl) ?_
        refine ql (.pointer (some (ad9.add i.toNat))) (by kernel_rfl) (R_indexA1 (k := .i64) (p := ad9) (n := L.length) (c := c) (i := i) (by kernel_rfl) (by kernel_rfl) Try.underlying75 (by kernel_rfl) (by omega) (by omega)) ?_
        refine ql (.int .i32 (rdI L i)) (by kernel_rfl) (R_load (p := ad9.add i.toNat) (by kernel_rfl) (by kernel_rfl) (by kernel_rfl) (HS.old0 (hr.at_ (ci_rd (i := i) (by omega) (by omega))))) ?_
        refine qc (f := 91) (args := #[.int .i32 (rdI L i)]) (by kernel_rfl) (R_call #[.int .i32 (rdI L i)] Try.func91 (by kernel_rfl) (by kernel_rfl) (by kernel_rfl)) ?_
        refine (snan (rdI L i) _).mono ?_
        rintro e W11 ⟨rfl, H_⟩
        refine ⟨_, rfl, ?_⟩
        replace HS : St W (owns []) W11 [] := HS.join (F := []) (G := []) H_
        clear H_
        refine ql (.bool false) (by kernel_rfl) (by kernel_rfl) ?_
        refine qln (by kernel_rfl) ?_
        refine qln (by kernel_rfl) ?_
        refine ql (.bool false) (by kernel_rfl) (by kernel_rfl) ?_
        refine ql (.bool false) (by kernel_rfl) (by kernel_rfl) ?_
        refine ql (.bool false) (by kernel_rfl) (by kernel_rfl) ?_
        refine ql (.int .i64 i) (by kernel_rfl) (by kernel_rfl) ?_
        refine ql (.bool false) (by kernel_rfl) (by kernel_rfl) ?_
        refine wpList_nil ?_
        refine x_then ?_
        refine wp_ret ?_
        refine ret_ (.tuple #[.int .i64 i, .bool false]) (by kernel_rfl) ?_
        exact ⟨by rw [rk_at hP, decide_eq_false (fun h_ => hc10 ((bs_has hP hs (by omega)).1 h_))], HS⟩
    · skip
      refine ql (.bool false) (by kernel_rfl) (R_nbool (p := i < (L.length : Int)) (by kernel_rfl) (hc8)) ?_
      refine ql (.bool false) (by kernel_rfl) (by kernel_rfl) ?_
      refine qln (by kernel_rfl) ?_
      refine qln (by kernel_rfl) ?_
      refine qln (by kernel_rfl) ?_
      refine qln (by kernel_rfl) ?_
      refine qln (by kernel_rfl) ?_
      refine qln (by kernel_rfl) ?_
      refine qln (by kernel_rfl) ?_
      refine qln (by kernel_rfl) ?_
      refine qln (by kernel_rfl) ?_
      refine qln (by kernel_rfl) ?_
      refine qln (by kernel_rfl) ?_
      refine qln (by kernel_rfl) ?_
      refine qln (by kernel_rfl) ?_
      refine qln (by kernel_rfl) ?_
      refine qln (by kernel_rfl) ?_
      refine qln (by kernel_rfl) ?_
      refine qln (by kernel_rfl) ?_
      refine ql (.bool false) (by kernel_rfl) (by kernel_rfl) ?_
      refine ql (.int .i64 i) (by kernel_rfl) (by kernel_rfl) ?_
      refine ql (.bool false) (by kernel_rfl) (by kernel_rfl) ?_
      refine wpList_nil ?_
      refine x_then ?_
      refine wp_ret ?_
      refine ret_ (.tuple #[.int .i64 i, .bool false]) (by kernel_rfl) ?_
      exact ⟨by rw [rk_at hP, decide_eq_false (bs_hasN hP hc8)], HS⟩

open Go.Shelf

set_option maxRecDepth 100000 in
set_option maxHeartbeats 1000000 in
theorem sins_end (A : Option Addr) (c gv : Nat) (L : List Int) (x : Int) (W : World) (M : Nat → Prop) (HS : St W M W [row A L.length c (ci .i32 L) 21 1, row (some ⟨gv, 0, none⟩) 1 1 (ci .i32 ([x])) 21 1]) (hl : L.length ≤ 100000) : Calls Try.prog 65 #[.slice A L.length c, .int .i64 (L.length : Int), .slice (some ⟨gv, 0, none⟩) 1 1] W fun e W' => ∃ A' c', e = .returned (.slice A' (insA L L.length x).length c') ∧ St W M W' [row A' (insA L L.length x).length c' (ci .i32 (insA L L.length x)) 21 1] := by
  refine calls_enter ((.slice A L.length c) :: (.int .i64 (L.length : Int)) :: (.slice (some ⟨gv, 0, none⟩) 1 1) :: undef :: undef :: undef :: undef :: undef :: undef :: undef :: undef :: undef :: undef :: undef :: undef :: undef :: undef :: undef :: undef :: undef :: undef :: undef :: undef :: undef :: undef :: undef :: undef :: undef :: undef :: undef :: undef :: undef :: undef :: undef :: undef :: undef :: undef :: undef :: undef :: undef :: undef :: undef :: undef :: undef :: undef :: undef :: undef :: undef :: undef :: undef :: undef :: undef :: undef :: undef :: undef :: undef :: undef :: undef :: undef :: undef :: undef :: undef :: undef :: undef :: undef :: undef :: undef :: undef :: undef :: undef :: undef :: undef :: undef :: undef :: undef :: undef :: undef :: undef :: undef :: undef :: undef :: undef :: undef :: undef :: undef :: undef :: undef :: undef :: undef :: undef :: undef :: undef :: undef :: undef :: undef :: []) Try.func65 rfl (by kernel_rfl) ?_
  refine wp_seq ?_
  refine wp_region_lit ?_
  refine ql (.slice none 0 0) (by kernel_rfl) (by kernel_rfl) ?_
  refine wpList_nil ?_
  refine x_then ?_
  refine wp_seq ?_
  refine wp_region_lit ?_
  refine ql (.slice A L.length c) (by kernel_rfl) (by kernel_rfl) ?_
  refine ql (.int .i64 (L.length : Int)) (by kernel_rfl) (by kernel_rfl) ?_
  refine ql (.slice (cutA A c L.length 1) (L.length - L.length) (c - L.length)) (by kernel_rfl) (R_sliceL (k := .i64) (A := A) (n := L.length) (c := c) (i := (L.length : Int)) (by kernel_rfl) (by kernel_rfl) Try.underlying75 (by kernel_rfl) (by omega) (by omega)) ?_
  refine wpList_nil ?_
  refine x_then ?_
  refine wp_seq ?_
  refine wp_region_lit ?_
  refine ql (.slice (some ⟨gv, 0, none⟩) 1 1) (by kernel_rfl) (by kernel_rfl) ?_
  refine ql (.int .i64 1) (by kernel_rfl) (by kernel_rfl) ?_
  refine ql (.int .i64 1) (by kernel_rfl) (by kernel_rfl) ?_
  refine wpList_nil ?_
  refine x_then ?_
  refine wp_seq ?_
  refine wp_seq ?_
  refine wp_region_lit ?_
  refine ql (.int .i64 1) (by kernel_rfl) (by kernel_rfl) ?_
  refine ql (.bool false) (by kernel_rfl) (R_beq (b := ((1 : Int) == 0)) (by kernel_rfl) (by decide)) ?_
  refine wpList_nil ?_
  refine x_then ?_
  refine wp_cond_false (by kernel_rfl) ?_
  refine wp_skip ?_
  refine x_then ?_
  refine wp_seq ?_
  refine wp_region_lit ?_
  refine ql (.slice A L.length c) (by kernel_rfl) (by kernel_rfl) ?_
  refine ql (.int .i64 (L.length : Int)) (by kernel_rfl) (by kernel_rfl) ?_
  refine ql (.int .i64 (L.length : Int)) (by kernel_rfl) (by kernel_rfl) ?_
  refine wpList_nil ?_
  refine x_then ?_
  refine wp_seq ?_
  refine wp_seq ?_
  refine wp_region_lit ?_
  refine ql (.int .i64 (L.length : Int)) (by kernel_rfl) (by kernel_rfl) ?_
  refine ql (.int .i64 (L.length : Int)) (by kernel_rfl) (by kernel_rfl) ?_
  refine ql (.bool true) (by kernel_rfl) (R_beq (b := ((L.length : Int) == (L.length : Int))) (by kernel_rfl) (beq_t (by omega))) ?_
  refine wpList_nil ?_
  refine x_then ?_
  refine wp_cond_true (by kernel_rfl) ?_
  refine wp_seq ?_
  refine wp_region_lit ?_
  refine ql (.slice A L.length c) (by kernel_rfl) (by kernel_rfl) ?_
  refine ql (.slice (some ⟨gv, 0, none⟩) 1 1) (by kernel_rfl) (by kernel_rfl) ?_
  obtain ⟨xs4, xs4_⟩ : ∃ z_ : List Int, z_ = L ++ ([x]) := ⟨_, rfl⟩
  have xs4l : xs4.length = L.length + 1 := by rw [xs4_, List.length_append] <;> (try simp only [List.length_cons, List.length_nil]) <;> omega
  refine ka1 HS 0 rfl (Src.of_row HS (i := 1) rfl ci_one) [.int .i32 0] 4 xs4.length (ci .i32 xs4) (by omega) (by rw [xs4_, ci_app]) (by kernel_rfl) (by kernel_rfl) (by kernel_rfl) Try.underlying75 (by kernel_rfl) (by kernel_rfl) (by kernel_rfl) (by kernel_rfl) (by decide) (by omega) (by omega) ?_
  intro A1 c2 W3 H_
  replace HS : St W M W3 [row A1 xs4.length c2 (ci .i32 xs4) 21 1, row (some ⟨gv, 0, none⟩) 1 1 (ci .i32 ([x])) 21 1] := H_
  clear H_
  refine ql (.slice A1 xs4.length c2) (by kernel_rfl) (by kernel_rfl) ?_
  refine wpList_nil ?_
  refine x_then ?_
  refine wp_ret ?_
  refine x_thenR ?_
  refine ret_ (.slice A1 xs4.length c2) (by kernel_rfl) ?_
  replace HS : St W M W3 [row A1 xs4.length c2 (ci .i32 xs4) 21 1] := St.tail (F := [row (some ⟨gv, 0, none⟩) 1 1 (ci .i32 ([x])) 21 1]) (HS.perm (perm_ [1, 0] (by kernel_rfl) rfl))
  have hq : xs4 = insA L L.length x := by rw [xs4_]; unfold insA; simp
  rw [← hq]
  exact ⟨_, _, rfl, HS⟩

set_option maxRecDepth 100000 in
set_option maxHeartbeats 1000000 in
theorem sins_mid (g c gv k : Nat) (L : List Int) (sp : List Value) (x : Int) (W : World) (M : Nat → Prop) (HS : St W M W [blk g (ci .i32 L ++ sp) 21, blk gv [.int .i32 x] 21]) (hl : L.length ≤ 100000) (hc : L.length + sp.length = c) (hm : c ≤ maxLen) (hk : k < L.length) : Calls Try.prog 65 #[.slice (some ⟨g, 0, none⟩) L.length c, .int .i64 (k : Int), .slice (some ⟨gv, 0, none⟩) 1 1] W fun e W' => ∃ A' c', e = .returned (.slice A' (insA L k x).length c') ∧ St W M W' [row A' (insA L k x).length c' (ci .i32 (insA L k x)) 21 1] := by
  have hm63 : maxLen = 9223372036854775807 := rfl
  have hcl : (ci .i32 L).length = L.length := ci_len _ _
  have hcc : (ci .i32 L ++ sp).length = c := by rw [List.length_append, hcl]; exact hc
  refine calls_enter ((.slice (some ⟨g, 0, none⟩) L.length c) :: (.int .i64 (k : Int)) :: (.slice (some ⟨gv, 0, none⟩) 1 1) :: undef :: undef :: undef :: undef :: undef :: undef :: undef :: undef :: undef :: undef :: undef :: undef :: undef :: undef :: undef :: undef :: undef :: undef :: undef :: undef :: undef :: undef :: undef :: undef :: undef :: undef :: undef :: undef :: undef :: undef :: undef :: undef :: undef :: undef :: undef :: undef :: undef :: undef :: undef :: undef :: undef :: undef :: undef :: undef :: undef :: undef :: undef :: undef :: undef :: undef :: undef :: undef :: undef :: undef :: undef :: undef :: undef :: undef :: undef :: undef :: undef :: undef :: undef :: undef :: undef :: undef :: undef :: undef :: undef :: undef :: undef :: undef :: undef :: undef :: undef :: undef :: undef :: undef :: undef :: undef :: undef :: undef :: undef :: undef :: undef :: undef :: undef :: undef :: undef :: undef :: undef :: undef :: []) Try.func65 rfl (by kernel_rfl) ?_
  refine wp_seq ?_
  refine wp_region_lit ?_
  refine ql (.slice none 0 0) (by kernel_rfl) (by kernel_rfl) ?_
  refine wpList_nil ?_
  refine x_then ?_
  refine wp_seq ?_
  refine wp_region_lit ?_
  refine ql (.slice (some ⟨g, 0, none⟩) L.length c) (by kernel_rfl) (by kernel_rfl) ?_
  refine ql (.int .i64 (k : Int)) (by kernel_rfl) (by kernel_rfl) ?_
  refine ql (.slice (some ⟨g, k, none⟩) (L.length - (k)) (c - (k))) (by kernel_rfl) (R_eq (R_sliceL (k := .i64) (A := (some ⟨g, 0, none⟩)) (n := L.length) (c := c) (i := (k : Int)) (by kernel_rfl) (by kernel_rfl) Try.underlying75 (by kernel_rfl) (by omega) (by omega)) (by rw [show ((k : Int)).toNat = k from by omega, cutA_at (by omega)])) ?_
  refine wpList_nil ?_
  refine x_then ?_
  refine wp_seq ?_
  refine wp_region_lit ?_
  refine ql (.slice (some ⟨gv, 0, none⟩) 1 1) (by kernel_rfl) (by kernel_rfl) ?_
  refine ql (.int .i64 1) (by kernel_rfl) (by kernel_rfl) ?_
  refine ql (.int .i64 1) (by kernel_rfl) (by kernel_rfl) ?_
  refine wpList_nil ?_
  refine x_then ?_
  refine wp_seq ?_
  refine wp_seq ?_
  refine wp_region_lit ?_
  refine ql (.int .i64 1) (by kernel_rfl) (by kernel_rfl) ?_
  refine ql (.bool false) (by kernel_rfl) (R_beq (b := ((1 : Int) == 0)) (by kernel_rfl) (by decide)) ?_
  refine wpList_nil ?_
  refine x_then ?_
  refine wp_cond_false (by kernel_rfl) ?_
  refine wp_skip ?_
  refine x_then ?_
  refine wp_seq ?_
  refine wp_region_lit ?_
  refine ql (.slice (some ⟨g, 0, none⟩) L.length c) (by kernel_rfl) (by kernel_rfl) ?_
  refine ql (.int .i64 (L.length : Int)) (by kernel_rfl) (by kernel_rfl) ?_
  refine ql (.int .i64 (L.length : Int)) (by kernel_rfl) (by kernel_rfl) ?_
  refine wpList_nil ?_
  refine x_then ?_
  refine wp_seq ?_
  refine wp_seq ?_
  refine wp_region_lit ?_
  refine ql (.int .i64 (k : Int)) (by kernel_rfl) (by kernel_rfl) ?_
  refine ql (.int .i64 (L.length : Int)) (by kernel_rfl) (by kernel_rfl) ?_
  refine ql (.bool false) (by kernel_rfl) (R_beq (b := ((k : Int) == (L.length : Int))) (by kernel_rfl) (beq_f (by omega))) ?_
  refine wpList_nil ?_
  refine x_then ?_
  refine wp_cond_false (by kernel_rfl) ?_
  refine wp_skip ?_
  refine x_then ?_
  refine wp_seq ?_
  refine wp_seq ?_
  refine wp_region_lit ?_
  refine ql (.int .i64 (L.length : Int)) (by kernel_rfl) (by kernel_rfl) ?_
  refine ql (.int .i64 1) (by kernel_rfl) (by kernel_rfl) ?_
  refine ql (.int .i64 ((L.length : Int) + 1)) (by kernel_rfl) (R_int (by kernel_rfl) (w64 (by omega))) ?_
  refine ql (.slice (some ⟨g, 0, none⟩) L.length c) (by kernel_rfl) (by kernel_rfl) ?_
  refine ql (.int .i64 (c : Int)) (by kernel_rfl) (by kernel_rfl) ?_
  by_cases hc1 : ((L.length : Int) + 1) > (c : Int)
  · skip
    refine ql (.bool true) (by kernel_rfl) (R_bool (p := ((L.length : Int) + 1) > (c : Int)) (by kernel_rfl) (hc1)) ?_
    refine wpList_nil ?_
    refine x_then ?_
    refine wp_cond_true (by kernel_rfl) ?_
    refine wp_seq ?_
    refine wp_region_lit ?_
    refine ql (.slice (some ⟨g, 0, none⟩) L.length c) (by kernel_rfl) (by kernel_rfl) ?_
    refine ql (.int .i64 (k : Int)) (by kernel_rfl) (by kernel_rfl) ?_
    refine ql (.slice (some ⟨g, 0, none⟩) k c) (by kernel_rfl) (R_eq (R_sliceH (z := 1) (e := 21) (k := .i64) (A := (some ⟨g, 0, none⟩)) (n := L.length) (c := c) (i := (k : Int)) (by kernel_rfl) (by kernel_rfl) Try.underlying75 (by kernel_rfl) (by omega) (by omega)) (by rw [show ((k : Int)).toNat = k from by omega])) ?_
    refine ql (.int .i64 (L.length : Int)) (by kernel_rfl) (by kernel_rfl) ?_
    refine ql (.int .i64 1) (by kernel_rfl) (by kernel_rfl) ?_
    refine ql (.int .i64 ((L.length : Int) + 1)) (by kernel_rfl) (R_int (by kernel_rfl) (w64 (by omega))) ?_
    refine ql (.int .i64 (k : Int)) (by kernel_rfl) (by kernel_rfl) ?_
    refine ql (.int .i64 (((L.length : Int) + 1) - (k : Int))) (by kernel_rfl) (R_int (by kernel_rfl) (w64 (by omega))) ?_
    refine kaz (n := k) (c := c) (k := (L.length + 1 - k)) (kn := .i64) (z := .int .i32 0) (by_ := 4) HS 0 rfl (by kernel_rfl) (by kernel_rfl) (k_eq (k := .i64) (m := ((L.length : Int) + 1) - (k : Int)) (by kernel_rfl) (by omega)) Try.underlying75 Try.underlying3 (by kernel_rfl) rfl (by kernel_rfl) (by kernel_rfl) (L.length + 1) (by omega) (by omega) (by omega) (by omega) (by omega) (by omega) ?_
    intro g2 c3 W4 hge hle H_
    replace HS : St W M W4 [blk g2 ((ci .i32 L ++ sp).take k ++ (List.replicate (L.length + 1 - k) (Value.int .i32 0) ++ List.replicate (c3 - (L.length + 1)) (Value.int .i32 0))) 21, blk g (ci .i32 L ++ sp) 21, blk gv [.int .i32 x] 21] := H_
    clear H_
    have hspn : sp = [] := List.eq_nil_of_length_eq_zero (by omega)
    have hZ : ((List.replicate (L.length + 1 - k) (Value.int .i32 0) ++ List.replicate (c3 - (L.length + 1)) (Value.int .i32 0))).length = c3 - k := by rw [List.length_append, List.length_replicate, List.length_replicate]; omega
    have htk : (ci .i32 L ++ sp).take k = (ci .i32 L).take k := List.take_append_of_le_length (by omega)
    rw [htk] at HS
    obtain ⟨B1, B2, hb1, hb2, hl1, hl2, ht2⟩ := grow_eq (C := ci .i32 L) (Z := (List.replicate (L.length + 1 - k) (Value.int .i32 0) ++ List.replicate (c3 - (L.length + 1)) (Value.int .i32 0))) (x := .int .i32 x) (K := k) (by omega) (by omega)
    have hB0 : ((ci .i32 L).take k ++ (List.replicate (L.length + 1 - k) (Value.int .i32 0) ++ List.replicate (c3 - (L.length + 1)) (Value.int .i32 0))).length = c3 := by rw [List.length_append, List.length_take, hZ]; omega
    refine ql (.slice (some ⟨g2, 0, none⟩) (L.length + 1) c3) (by kernel_rfl) (by kernel_rfl) ?_
    refine wpList_nil ?_
    refine x_then ?_
    refine wp_seq ?_
    refine wp_region_lit ?_
    refine ql (.slice (some ⟨g2, 0, none⟩) (L.length + 1) c3) (by kernel_rfl) (by kernel_rfl) ?_
    refine ql (.int .i64 (k : Int)) (by kernel_rfl) (by kernel_rfl) ?_
    refine ql (.slice (some ⟨g2, k, none⟩) ((L.length + 1) - (k)) (c3 - (k))) (by kernel_rfl) (R_eq (R_sliceL (k := .i64) (A := (some ⟨g2, 0, none⟩)) (n := (L.length + 1)) (c := c3) (i := (k : Int)) (by kernel_rfl) (by kernel_rfl) Try.underlying75 (by kernel_rfl) (by omega) (by omega)) (by rw [show ((k : Int)).toNat = k from by omega, cutA_at (by omega)])) ?_
    refine ql (.slice (some ⟨gv, 0, none⟩) 1 1) (by kernel_rfl) (by kernel_rfl) ?_
    refine kcpy (o := k) (n := ((L.length + 1) - (k))) (c := (c3 - (k))) (m := 1) (c2 := 1) (ad := ⟨gv, 0, none⟩) (xs := [.int .i32 x]) HS 0 rfl (by kernel_rfl) (by kernel_rfl) (by kernel_rfl) Try.underlying75 (by kernel_rfl) B1 (by simp only [List.length_singleton, Nat.min_def]; split <;> omega) (cells_at (fun j v hv => by rw [Nat.zero_add]; exact HS.cell (i := 2) rfl hv)) (by simp only [List.length_singleton]; omega) (one_ (by kernel_rfl)) hb1 ?_
    intro W5 H_
    replace HS : St W M W5 [blk g2 B1 21, blk g (ci .i32 L ++ sp) 21, blk gv [.int .i32 x] 21] := H_
    clear H_
    refine wpList_nil ?_
    refine x_then ?_
    refine wp_seq ?_
    refine rg_still HS 8 (by kernel_rfl) (by kernel_rfl) ?_
    intro W6 H_ HK_
    simp only [List.take_succ_cons, List.take_zero, List.drop_succ_cons, List.drop_zero]
    replace HS : St W M W6 [blk g2 B1 21, blk g (ci .i32 L ++ sp) 21, blk gv [.int .i32 x] 21] := H_
    clear H_
    clear HK_
    refine qs (.slice (some ⟨g2, 0, none⟩) (L.length + 1) c3) (by kernel_rfl) (by kernel_rfl) ?_
    refine qs (.int .i64 (k : Int)) (by kernel_rfl) (by kernel_rfl) ?_
    refine qs (.int .i64 1) (by kernel_rfl) (by kernel_rfl) ?_
    refine qs (.int .i64 ((k : Int) + 1)) (by kernel_rfl) (R_int (by kernel_rfl) (w64 (by omega))) ?_
    refine qs (.slice (some ⟨g2, k + 1, none⟩) ((L.length + 1) - (k + 1)) (c3 - (k + 1))) (by kernel_rfl) (R_eq (R_sliceL (k := .i64) (A := (some ⟨g2, 0, none⟩)) (n := (L.length + 1)) (c := c3) (i := (k : Int) + 1) (by kernel_rfl) (by kernel_rfl) Try.underlying75 (by kernel_rfl) (by omega) (by omega)) (by rw [show ((k : Int) + 1).toNat = k + 1 from by omega, cutA_at (by omega)])) ?_
    refine qs (.slice (some ⟨g, 0, none⟩) L.length c) (by kernel_rfl) (by kernel_rfl) ?_
    refine qs (.int .i64 (k : Int)) (by kernel_rfl) (by kernel_rfl) ?_
    refine qs (.slice (some ⟨g, k, none⟩) (L.length - (k)) (c - (k))) (by kernel_rfl) (R_eq (R_sliceL (k := .i64) (A := (some ⟨g, 0, none⟩)) (n := L.length) (c := c) (i := (k : Int)) (by kernel_rfl) (by kernel_rfl) Try.underlying75 (by kernel_rfl) (by omega) (by omega)) (by rw [show ((k : Int)).toNat = k from by omega, cutA_at (by omega)])) ?_
    refine wpStill_nil ?_
    refine kcpy (o := k + 1) (n := ((L.length + 1) - (k + 1))) (c := (c3 - (k + 1))) (m := (L.length - (k))) (c2 := (c - (k))) (ad := ⟨g, k, none⟩) (xs := (ci .i32 L).drop k) HS 0 rfl (by kernel_rfl) (by kernel_rfl) (by kernel_rfl) Try.underlying75 (by kernel_rfl) B2 (by rw [List.length_drop, hcl]; simp only [Nat.min_def]; split <;> omega) (cells_at (fun j v hv => HS.cell (i := 1) rfl (src_drop hv))) (by rw [List.length_drop, hcl]; omega) (fun v hv => ci_one v (List.mem_of_mem_drop hv)) hb2 ?_
    intro W7 H_
    replace HS : St W M W7 [blk g2 B2 21, blk g (ci .i32 L ++ sp) 21, blk gv [.int .i32 x] 21] := H_
    clear H_
    refine wpList_nil ?_
    refine x_then ?_
    refine wp_seq ?_
    refine wp_region_lit ?_
    refine ql (.slice (some ⟨g2, 0, none⟩) (L.length + 1) c3) (by kernel_rfl) (by kernel_rfl) ?_
    refine ql (.slice (some ⟨g2, 0, none⟩) (L.length + 1) c3) (by kernel_rfl) (by kernel_rfl) ?_
    refine wpList_nil ?_
    refine x_then ?_
    refine wp_ret ?_
    refine x_thenR ?_
    refine ret_ (.slice (some ⟨g2, 0, none⟩) (L.length + 1) c3) (by kernel_rfl) ?_
    replace HS : St W M W7 [blk g2 B2 21] := St.tail (F := [blk g (ci .i32 L ++ sp) 21, blk gv [.int .i32 x] 21]) (HS.perm (perm_ [1, 2, 0] (by kernel_rfl) rfl))
    have hil : (insA L k x).length = L.length + 1 := insA_len (by omega)
    replace HS := HS.closeRow (i := 0) rfl (L.length + 1) c3 (ci .i32 (insA L k x)) (by omega) (by rw [ci_insA, ← ht2, hcl]) (by omega) (by omega)
    rw [hil]
    exact ⟨_, _, rfl, HS⟩
  · skip
    refine ql (.bool false) (by kernel_rfl) (R_nbool (p := ((L.length : Int) + 1) > (c : Int)) (by kernel_rfl) (hc1)) ?_
    refine wpList_nil ?_
    refine x_then ?_
    refine wp_cond_false (by kernel_rfl) ?_
    refine wp_skip ?_
    refine x_then ?_
    refine wp_seq ?_
    refine wp_region_lit ?_
    refine ql (.slice (some ⟨g, 0, none⟩) L.length c) (by kernel_rfl) (by kernel_rfl) ?_
    refine ql (.int .i64 (L.length : Int)) (by kernel_rfl) (by kernel_rfl) ?_
    refine ql (.int .i64 1) (by kernel_rfl) (by kernel_rfl) ?_
    refine ql (.int .i64 ((L.length : Int) + 1)) (by kernel_rfl) (R_int (by kernel_rfl) (w64 (by omega))) ?_
    refine ql (.slice (some ⟨g, 0, none⟩) (L.length + 1) c) (by kernel_rfl) (R_eq (R_sliceH (z := 1) (e := 21) (k := .i64) (A := (some ⟨g, 0, none⟩)) (n := L.length) (c := c) (i := (L.length : Int) + 1) (by kernel_rfl) (by kernel_rfl) Try.underlying75 (by kernel_rfl) (by omega) (by omega)) (by rw [show ((L.length : Int) + 1).toNat = L.length + 1 from by omega])) ?_
    refine ql (.slice (some ⟨g, 0, none⟩) (L.length + 1) c) (by kernel_rfl) (by kernel_rfl) ?_
    refine wpList_nil ?_
    refine x_then ?_
    refine wp_seq ?_
    refine wp_seq ?_
    refine wp_region_lit ?_
    refine ql (.slice (some ⟨gv, 0, none⟩) 1 1) (by kernel_rfl) (by kernel_rfl) ?_
    refine ql (.slice (some ⟨g, 0, none⟩) (L.length + 1) c) (by kernel_rfl) (by kernel_rfl) ?_
    refine ql (.int .i64 (k : Int)) (by kernel_rfl) (by kernel_rfl) ?_
    refine ql (.int .i64 1) (by kernel_rfl) (by kernel_rfl) ?_
    refine ql (.int .i64 ((k : Int) + 1)) (by kernel_rfl) (R_int (by kernel_rfl) (w64 (by omega))) ?_
    refine ql (.slice (some ⟨g, k + 1, none⟩) ((L.length + 1) - (k + 1)) (c - (k + 1))) (by kernel_rfl) (R_eq (R_sliceL (k := .i64) (A := (some ⟨g, 0, none⟩)) (n := (L.length + 1)) (c := c) (i := (k : Int) + 1) (by kernel_rfl) (by kernel_rfl) Try.underlying75 (by kernel_rfl) (by omega) (by omega)) (by rw [show ((k : Int) + 1).toNat = k + 1 from by omega, cutA_at (by omega)])) ?_
    refine ql (.bool false) (by kernel_rfl) (R_apart (tS := 75) (tR := 4) (x := ⟨gv, 0, none⟩) (b := ⟨g, k + 1, none⟩) #[.slice (some ⟨gv, 0, none⟩) 1 1, .slice (some ⟨g, k + 1, none⟩) ((L.length + 1) - (k + 1)) (c - (k + 1))] Try.func85 (by kernel_rfl) (by kernel_rfl) (by kernel_rfl) (by kernel_rfl) (by kernel_rfl) rfl Try.underlying75 (by kernel_rfl) (HS.blkE (i := 1) rfl) (HS.blkE (i := 0) rfl) (HS.blkNe (i := 0) (j := 1) rfl rfl (by decide)) (fun h_ => by have := congrArg List.length h_; rw [hcc] at this; simp only [List.length_nil] at this; omega)) ?_
    refine ql (.bool true) (by kernel_rfl) (by kernel_rfl) ?_
    refine wpList_nil ?_
    refine x_then ?_
    refine wp_cond_true (by kernel_rfl) ?_
    refine wp_seq ?_
    refine rg_still HS 8 (by kernel_rfl) (by kernel_rfl) ?_
    intro W8 H_ HK_
    simp only [List.take_succ_cons, List.take_zero, List.drop_succ_cons, List.drop_zero]
    replace HS : St W M W8 [blk g (ci .i32 L ++ sp) 21, blk gv [.int .i32 x] 21] := H_
    clear H_
    clear HK_
    refine qs (.slice (some ⟨g, 0, none⟩) (L.length + 1) c) (by kernel_rfl) (by kernel_rfl) ?_
    refine qs (.int .i64 (k : Int)) (by kernel_rfl) (by kernel_rfl) ?_
    refine qs (.int .i64 1) (by kernel_rfl) (by kernel_rfl) ?_
    refine qs (.int .i64 ((k : Int) + 1)) (by kernel_rfl) (R_int (by kernel_rfl) (w64 (by omega))) ?_
    refine qs (.slice (some ⟨g, k + 1, none⟩) ((L.length + 1) - (k + 1)) (c - (k + 1))) (by kernel_rfl) (R_eq (R_sliceL (k := .i64) (A := (some ⟨g, 0, none⟩)) (n := (L.length + 1)) (c := c) (i := (k : Int) + 1) (by kernel_rfl) (by kernel_rfl) Try.underlying75 (by kernel_rfl) (by omega) (by omega)) (by rw [show ((k : Int) + 1).toNat = k + 1 from by omega, cutA_at (by omega)])) ?_
    refine qs (.slice (some ⟨g, 0, none⟩) (L.length + 1) c) (by kernel_rfl) (by kernel_rfl) ?_
    refine qs (.int .i64 (k : Int)) (by kernel_rfl) (by kernel_rfl) ?_
    refine qs (.slice (some ⟨g, k, none⟩) ((L.length + 1) - (k)) (c - (k))) (by kernel_rfl) (R_eq (R_sliceL (k := .i64) (A := (some ⟨g, 0, none⟩)) (n := (L.length + 1)) (c := c) (i := (k : Int)) (by kernel_rfl) (by kernel_rfl) Try.underlying75 (by kernel_rfl) (by omega) (by omega)) (by rw [show ((k : Int)).toNat = k from by omega, cutA_at (by omega)])) ?_
    refine wpStill_nil ?_
    obtain ⟨B1, B2, hb1, hb2, hl1, hl2, ht2⟩ := shift_eq (C := ci .i32 L) (sp := sp) (x := .int .i32 x) (K := k) (by omega) (by omega)
    refine kcpy (o := k + 1) (n := ((L.length + 1) - (k + 1))) (c := (c - (k + 1))) (m := ((L.length + 1) - (k))) (c2 := (c - (k))) (ad := ⟨g, k, none⟩) (xs := (ci .i32 L).drop k) HS 0 rfl (by kernel_rfl) (by kernel_rfl) (by kernel_rfl) Try.underlying75 (by kernel_rfl) B1 (by rw [List.length_drop, hcl]; simp only [Nat.min_def]; split <;> omega) (cells_at (fun j v hv => HS.cell (i := 0) rfl (src_drop hv))) (by rw [List.length_drop, hcl]; omega) (fun v hv => ci_one v (List.mem_of_mem_drop hv)) hb1 ?_
    intro W9 H_
    replace HS : St W M W9 [blk g B1 21, blk gv [.int .i32 x] 21] := H_
    clear H_
    refine wpList_nil ?_
    refine x_then ?_
    refine wp_seq ?_
    refine wp_region_lit ?_
    refine ql (.slice (some ⟨g, 0, none⟩) (L.length + 1) c) (by kernel_rfl) (by kernel_rfl) ?_
    refine ql (.int .i64 (k : Int)) (by kernel_rfl) (by kernel_rfl) ?_
    refine ql (.slice (some ⟨g, k, none⟩) ((L.length + 1) - (k)) (c - (k))) (by kernel_rfl) (R_eq (R_sliceL (k := .i64) (A := (some ⟨g, 0, none⟩)) (n := (L.length + 1)) (c := c) (i := (k : Int)) (by kernel_rfl) (by kernel_rfl) Try.underlying75 (by kernel_rfl) (by omega) (by omega)) (by rw [show ((k : Int)).toNat = k from by omega, cutA_at (by omega)])) ?_
    refine ql (.slice (some ⟨gv, 0, none⟩) 1 1) (by kernel_rfl) (by kernel_rfl) ?_
    refine kcpy (o := k) (n := ((L.length + 1) - (k))) (c := (c - (k))) (m := 1) (c2 := 1) (ad := ⟨gv, 0, none⟩) (xs := [.int .i32 x]) HS 0 rfl (by kernel_rfl) (by kernel_rfl) (by kernel_rfl) Try.underlying75 (by kernel_rfl) B2 (by simp only [List.length_singleton, Nat.min_def]; split <;> omega) (cells_at (fun j v hv => by rw [Nat.zero_add]; exact HS.cell (i := 1) rfl hv)) (by simp only [List.length_singleton]; omega) (one_ (by kernel_rfl)) hb2 ?_
    intro W10 H_
    replace HS : St W M W10 [blk g B2 21, blk gv [.int .i32 x] 21] := H_
    clear H_
    refine wpList_nil ?_
    refine x_then ?_
    refine wp_seq ?_
    refine wp_region_lit ?_
    refine ql (.slice (some ⟨g, 0, none⟩) (L.length + 1) c) (by kernel_rfl) (by kernel_rfl) ?_
    refine ql (.slice (some ⟨g, 0, none⟩) (L.length + 1) c) (by kernel_rfl) (by kernel_rfl) ?_
    refine wpList_nil ?_
    refine x_then ?_
    refine wp_ret ?_
    refine x_thenR ?_
    refine ret_ (.slice (some ⟨g, 0, none⟩) (L.length + 1) c) (by kernel_rfl) ?_
    replace HS : St W M W10 [blk g B2 21] := St.tail (F := [blk gv [.int .i32 x] 21]) (HS.perm (perm_ [1, 0] (by kernel_rfl) rfl))
    have hil : (insA L k x).length = L.length + 1 := insA_len (by omega)
    replace HS := HS.closeRow (i := 0) rfl (L.length + 1) c (ci .i32 (insA L k x)) (by omega) (by rw [ci_insA, ← ht2, hcl]) (by omega) (by omega)
    rw [hil]
    exact ⟨_, _, rfl, HS⟩

open Go.Shelf

set_option maxRecDepth 100000 in
set_option maxHeartbeats 1000000 in
theorem splace (g c : Nat) (A : Option Addr) (L : List Int) (i : Int) (W : World) (hz0 : W.cell? ⟨g, 0, none⟩ = some (.slice A L.length c)) (hr : Rd W A (ci .i32 L)) (hs : S31 L) (hl : L.length ≤ 100000) : Calls Try.prog 50 #[.pointer (some ⟨g, 0, none⟩), .int .i64 i] W fun e W' => e = .returned (.tuple #[.int .i64 (plc L i), .bool (decide (i ∈ L))]) ∧ St W (owns []) W' [] := by
  have HS : St W (owns []) W [] := St.start W _
  refine calls_enter [.pointer (some ⟨g, 0, none⟩), .int .i64 i, undef, undef, undef, undef, undef, undef, undef, undef, undef, undef, undef, undef, undef, undef, undef, undef, undef, undef, undef, undef, undef, undef, undef] Try.func50 rfl (by kernel_rfl) ?_
  refine wp_seq ?_
  refine wp_region_lit ?_
  refine ql (.int .i64 0) (by kernel_rfl) (by kernel_rfl) ?_
  refine ql (.bool false) (by kernel_rfl) (by kernel_rfl) ?_
  refine wpList_nil ?_
  refine x_then ?_
  refine wp_seq ?_
  refine wp_seq ?_
  refine wp_region_lit ?_
  refine ql (.pointer (some ⟨g, 0, none⟩)) (by kernel_rfl) (by kernel_rfl) ?_
  refine ql (.bool false) (by kernel_rfl) (by kernel_rfl) ?_
  refine ql (.bool false) (by kernel_rfl) (by kernel_rfl) ?_
  refine ql (.int .i64 i) (by kernel_rfl) (by kernel_rfl) ?_
  by_cases hc1 : i < (0 : Int)
  · skip
    refine ql (.bool true) (by kernel_rfl) (R_bool (p := i < (0 : Int)) (by kernel_rfl) (hc1)) ?_
    refine ql (.bool true) (by kernel_rfl) (by kernel_rfl) ?_
    refine ql (.bool true) (by kernel_rfl) (by kernel_rfl) ?_
    refine qln (by kernel_rfl) ?_
    refine qln (by kernel_rfl) ?_
    refine ql (.bool true) (by kernel_rfl) (by kernel_rfl) ?_
    refine wpList_nil ?_
    refine x_then ?_
    refine wp_cond_true (by kernel_rfl) ?_
    refine wp_seq ?_
    refine wp_region_lit ?_
    refine ql (.int .i64 0) (by kernel_rfl) (by kernel_rfl) ?_
    refine ql (.bool false) (by kernel_rfl) (by kernel_rfl) ?_
    refine wpList_nil ?_
    refine x_then ?_
    refine wp_ret ?_
    refine x_thenR ?_
    refine ret_ (.tuple #[.int .i64 0, .bool false]) (by kernel_rfl) ?_
    exact ⟨by rw [hs.plcO (by omega), decide_eq_false (hs.not_ (by omega))], HS⟩
  · skip
    refine ql (.bool false) (by kernel_rfl) (R_nbool (p := i < (0 : Int)) (by kernel_rfl) (hc1)) ?_
    refine ql (.bool false) (by kernel_rfl) (by kernel_rfl) ?_
    refine ql (.bool false) (by kernel_rfl) (by kernel_rfl) ?_
    refine ql (.int .i64 i) (by kernel_rfl) (by kernel_rfl) ?_
    by_cases hc2 : i > (2147483647 : Int)
    · skip
      refine ql (.bool true) (by kernel_rfl) (R_bool (p := i > (2147483647 : Int)) (by kernel_rfl) (hc2)) ?_
      refine ql (.bool true) (by kernel_rfl) (by kernel_rfl) ?_
      refine wpList_nil ?_
      refine x_then ?_
      refine wp_cond_true (by kernel_rfl) ?_
      refine wp_seq ?_
      refine wp_region_lit ?_
      refine ql (.int .i64 0) (by kernel_rfl) (by kernel_rfl) ?_
      refine ql (.bool false) (by kernel_rfl) (by kernel_rfl) ?_
      refine wpList_nil ?_
      refine x_then ?_
      refine wp_ret ?_
      refine x_thenR ?_
      refine ret_ (.tuple #[.int .i64 0, .bool false]) (by kernel_rfl) ?_
      exact ⟨by rw [hs.plcO (by omega), decide_eq_false (hs.not_ (by omega))], HS⟩
    · skip
      refine ql (.bool false) (by kernel_rfl) (R_nbool (p := i > (2147483647 : Int)) (by kernel_rfl) (hc2)) ?_
      refine ql (.bool false) (by kernel_rfl) (by kernel_rfl) ?_
      refine wpList_nil ?_
      refine x_then ?_
      refine wp_cond_false (by kernel_rfl) ?_
      refine wp_skip ?_
      refine x_then ?_
      refine wp_seq ?_
      refine wp_region_lit ?_
      refine ql (.pointer (some ⟨g, 0, none⟩)) (by kernel_rfl) (by kernel_rfl) ?_
      refine ql (.pointer (some ⟨g, 0, none⟩)) (by kernel_rfl) (by kernel_rfl) ?_
      refine ql (.pointer (some ⟨g, 0, none⟩)) (by kernel_rfl) (by kernel_rfl) ?_
      refine ql (.slice A L.length c) (by kernel_rfl) (R_load (p := ⟨g, 0, none⟩) (by kernel_rfl) (by kernel_rfl) (by kernel_rfl) (HS.old0 hz0)) ?_
      refine ql (.int .i64 i) (by kernel_rfl) (by kernel_rfl) ?_
      refine ql (.int .i32 i) (by kernel_rfl) (R_int (by kernel_rfl) (w32 (by omega))) ?_
      refine qc (f := 76) (args := #[.slice A L.length c, .int .i32 i]) (by kernel_rfl) (R_call #[.slice A L.length c, .int .i32 i] Try.func76 (by kernel_rfl) (by kernel_rfl) (by kernel_rfl)) ?_
      refine (sbs A c L i _ (hr.old0 HS) hl hs.1).mono ?_
      rintro e W3 ⟨rfl, H_⟩
      refine ⟨_, rfl, ?_⟩
      replace HS : St W (owns []) W3 [] := HS.join (F := []) (G := []) H_
      clear H_
      refine ql (.int .i64 (rk L i)) (by kernel_rfl) (by kernel_rfl) ?_
      refine ql (.bool (decide (i ∈ L))) (by kernel_rfl) (by kernel_rfl) ?_
      refine ql (.int .i64 (rk L i)) (by kernel_rfl) (by kernel_rfl) ?_
      refine ql (.bool (decide (i ∈ L))) (by kernel_rfl) (by kernel_rfl) ?_
      refine wpList_nil ?_
      refine x_then ?_
      refine wp_ret ?_
      refine ret_ (.tuple #[.int .i64 (rk L i), .bool (decide (i ∈ L))]) (by kernel_rfl) ?_
      exact ⟨by rw [plc_in (by omega)], HS⟩

set_option maxRecDepth 100000 in
set_option maxHeartbeats 1000000 in
theorem splace_nil  (i : Int) (W : World)  : Calls Try.prog 50 #[.pointer none, .int .i64 i] W fun e W' => e = .returned (.tuple #[.int .i64 0, .bool false]) ∧ St W (owns []) W' [] := by
  have HS : St W (owns []) W [] := St.start W _
  refine calls_enter [.pointer none, .int .i64 i, undef, undef, undef, undef, undef, undef, undef, undef, undef, undef, undef, undef, undef, undef, undef, undef, undef, undef, undef, undef, undef, undef, undef] Try.func50 rfl (by kernel_rfl) ?_
  refine wp_seq ?_
  refine wp_region_lit ?_
  refine ql (.int .i64 0) (by kernel_rfl) (by kernel_rfl) ?_
  refine ql (.bool false) (by kernel_rfl) (by kernel_rfl) ?_
  refine wpList_nil ?_
  refine x_then ?_
  refine wp_seq ?_
  refine wp_seq ?_
  refine wp_region_lit ?_
  refine ql (.pointer none) (by kernel_rfl) (by kernel_rfl) ?_
  refine ql (.bool true) (by kernel_rfl) (by kernel_rfl) ?_
  refine ql (.bool true) (by kernel_rfl) (by kernel_rfl) ?_
  refine qln (by kernel_rfl) ?_
  refine qln (by kernel_rfl) ?_
  refine ql (.bool true) (by kernel_rfl) (by kernel_rfl) ?_
  refine ql (.bool true) (by kernel_rfl) (by kernel_rfl) ?_
  refine qln (by kernel_rfl) ?_
  refine qln (by kernel_rfl) ?_
  refine ql (.bool true) (by kernel_rfl) (by kernel_rfl) ?_
  refine wpList_nil ?_
  refine x_then ?_
  refine wp_cond_true (by kernel_rfl) ?_
  refine wp_seq ?_
  refine wp_region_lit ?_
  refine ql (.int .i64 0) (by kernel_rfl) (by kernel_rfl) ?_
  refine ql (.bool false) (by kernel_rfl) (by kernel_rfl) ?_
  refine wpList_nil ?_
  refine x_then ?_
  refine wp_ret ?_
  refine x_thenR ?_
  refine ret_ (.tuple #[.int .i64 0, .bool false]) (by kernel_rfl) ?_
  exact ⟨rfl, HS⟩

set_option maxRecDepth 100000 in
set_option maxHeartbeats 1000000 in
theorem shas (g c : Nat) (A : Option Addr) (L : List Int) (i : Int) (W : World) (hz0 : W.cell? ⟨g, 0, none⟩ = some (.slice A L.length c)) (hr : Rd W A (ci .i32 L)) (hs : S31 L) (hl : L.length ≤ 100000) : Calls Try.prog 15 #[.pointer (some ⟨g, 0, none⟩), .int .i64 i] W fun e W' => e = .returned (.bool (decide (i ∈ L))) ∧ St W (owns []) W' [] := by
  have HS : St W (owns []) W [] := St.start W _
  refine calls_enter [.pointer (some ⟨g, 0, none⟩), .int .i64 i, undef, undef, undef, undef, undef, undef, undef, undef, undef, undef, undef, undef] Try.func15 rfl (by kernel_rfl) ?_
  refine wp_seq ?_
  refine wp_region_lit ?_
  refine ql (.bool false) (by kernel_rfl) (by kernel_rfl) ?_
  refine wpList_nil ?_
  refine x_then ?_
  refine wp_seq ?_
  refine wp_region_lit ?_
  refine ql (.pointer (some ⟨g, 0, none⟩)) (by kernel_rfl) (by kernel_rfl) ?_
  refine ql (.int .i64 i) (by kernel_rfl) (by kernel_rfl) ?_
  refine qc (f := 50) (args := #[.pointer (some ⟨g, 0, none⟩), .int .i64 i]) (by kernel_rfl) (R_call #[.pointer (some ⟨g, 0, none⟩), .int .i64 i] Try.func50 (by kernel_rfl) (by kernel_rfl) (by kernel_rfl)) ?_
  refine (splace g c A L i _ (HS.old0 hz0) (hr.old0 HS) hs hl).mono ?_
  rintro e W1 ⟨rfl, H_⟩
  refine ⟨_, rfl, ?_⟩
  replace HS : St W (owns []) W1 [] := HS.join (F := []) (G := []) H_
  clear H_
  refine ql (.tuple #[.int .i64 (plc L i), .bool (decide (i ∈ L))]) (by kernel_rfl) (by kernel_rfl) ?_
  refine ql (.int .i64 (plc L i)) (by kernel_rfl) (by kernel_rfl) ?_
  refine ql (.bool (decide (i ∈ L))) (by kernel_rfl) (by kernel_rfl) ?_
  refine ql (.int .i64 (plc L i)) (by kernel_rfl) (by kernel_rfl) ?_
  refine ql (.bool (decide (i ∈ L))) (by kernel_rfl) (by kernel_rfl) ?_
  refine wpList_nil ?_
  refine x_then ?_
  refine wp_seq ?_
  refine wp_region_lit ?_
  refine ql (.bool (decide (i ∈ L))) (by kernel_rfl) (by kernel_rfl) ?_
  refine ql (.bool (decide (i ∈ L))) (by kernel_rfl) (by kernel_rfl) ?_
  refine wpList_nil ?_
  refine x_then ?_
  refine wp_ret ?_
  refine ret_ (.bool (decide (i ∈ L))) (by kernel_rfl) ?_
  exact ⟨rfl, HS⟩

set_option maxRecDepth 100000 in
set_option maxHeartbeats 1000000 in
theorem shas_nil  (i : Int) (W : World)  : Calls Try.prog 15 #[.pointer none, .int .i64 i] W fun e W' => e = .returned (.bool false) ∧ St W (owns []) W' [] := by
  have HS : St W (owns []) W [] := St.start W _
  refine calls_enter [.pointer none, .int .i64 i, undef, undef, undef, undef, undef, undef, undef, undef, undef, undef, undef, undef] Try.func15 rfl (by kernel_rfl) ?_
  refine wp_seq ?_
  refine wp_region_lit ?_
  refine ql (.bool false) (by kernel_rfl) (by kernel_rfl) ?_
  refine wpList_nil ?_
  refine x_then ?_
  refine wp_seq ?_
  refine wp_region_lit ?_
  refine ql (.pointer none) (by kernel_rfl) (by kernel_rfl) ?_
  refine ql (.int .i64 i) (by kernel_rfl) (by kernel_rfl) ?_
  refine qc (f := 50) (args := #[.pointer none, .int .i64 i]) (by kernel_rfl) (R_call #[.pointer none, .int .i64 i] Try.func50 (by kernel_rfl) (by kernel_rfl) (by kernel_rfl)) ?_
  refine (splace_nil i _).mono ?_
  rintro e W1 ⟨rfl, H_⟩
  refine ⟨_, rfl, ?_⟩
  replace HS : St W (owns []) W1 [] := HS.join (F := []) (G := []) H_
  clear H_
  refine ql (.tuple #[.int .i64 0, .bool false]) (by kernel_rfl) (by kernel_rfl) ?_
  refine ql (.int .i64 0) (by kernel_rfl) (by kernel_rfl) ?_
  refine ql (.bool false) (by kernel_rfl) (by kernel_rfl) ?_
  refine ql (.int .i64 0) (by kernel_rfl) (by kernel_rfl) ?_
  refine ql (.bool false) (by kernel_rfl) (by kernel_rfl) ?_
  refine wpList_nil ?_
  refine x_then ?_
  refine wp_seq ?_
  refine wp_region_lit ?_
  refine ql (.bool false) (by kernel_rfl) (by kernel_rfl) ?_
  refine ql (.bool false) (by kernel_rfl) (by kernel_rfl) ?_
  refine wpList_nil ?_
  refine x_then ?_
  refine wp_ret ?_
  refine ret_ (.bool false) (by kernel_rfl) ?_
  exact ⟨rfl, HS⟩

set_option maxRecDepth 100000 in
set_option maxHeartbeats 1000000 in
theorem slen (g c : Nat) (A : Option Addr) (L : List Int) (W : World) (hz0 : W.cell? ⟨g, 0, none⟩ = some (.slice A L.length c)) (hr : Rd W A (ci .i32 L)) (hs : S31 L) (hl : L.length ≤ 100000) : Calls Try.prog 13 #[.pointer (some ⟨g, 0, none⟩)] W fun e W' => e = .returned (.int .i64 (L.length : Int)) ∧ St W (owns []) W' [] := by
  have HS : St W (owns []) W [] := St.start W _
  refine calls_enter [.pointer (some ⟨g, 0, none⟩), undef, undef, undef, undef, undef, undef, undef, undef, undef] Try.func13 rfl (by kernel_rfl) ?_
  refine wp_seq ?_
  refine wp_region_lit ?_
  refine ql (.int .i64 0) (by kernel_rfl) (by kernel_rfl) ?_
  refine wpList_nil ?_
  refine x_then ?_
  refine wp_seq ?_
  refine wp_seq ?_
  refine wp_region_lit ?_
  refine ql (.pointer (some ⟨g, 0, none⟩)) (by kernel_rfl) (by kernel_rfl) ?_
  refine ql (.bool false) (by kernel_rfl) (by kernel_rfl) ?_
  refine wpList_nil ?_
  refine x_then ?_
  refine wp_cond_false (by kernel_rfl) ?_
  refine wp_skip ?_
  refine x_then ?_
  refine wp_seq ?_
  refine wp_region_lit ?_
  refine ql (.pointer (some ⟨g, 0, none⟩)) (by kernel_rfl) (by kernel_rfl) ?_
  refine ql (.pointer (some ⟨g, 0, none⟩)) (by kernel_rfl) (by kernel_rfl) ?_
  refine ql (.pointer (some ⟨g, 0, none⟩)) (by kernel_rfl) (by kernel_rfl) ?_
  refine ql (.slice A L.length c) (by kernel_rfl) (R_load (p := ⟨g, 0, none⟩) (by kernel_rfl) (by kernel_rfl) (by kernel_rfl) (HS.old0 hz0)) ?_
  refine ql (.int .i64 (L.length : Int)) (by kernel_rfl) (by kernel_rfl) ?_
  refine ql (.int .i64 (L.length : Int)) (by kernel_rfl) (by kernel_rfl) ?_
  refine wpList_nil ?_
  refine x_then ?_
  refine wp_ret ?_
  refine ret_ (.int .i64 (L.length : Int)) (by kernel_rfl) ?_
  exact ⟨rfl, HS⟩

set_option maxRecDepth 100000 in
set_option maxHeartbeats 1000000 in
theorem slen_nil  (W : World)  : Calls Try.prog 13 #[.pointer none] W fun e W' => e = .returned (.int .i64 0) ∧ St W (owns []) W' [] := by
  have HS : St W (owns []) W [] := St.start W _
  refine calls_enter [.pointer none, undef, undef, undef, undef, undef, undef, undef, undef, undef] Try.func13 rfl (by kernel_rfl) ?_
  refine wp_seq ?_
  refine wp_region_lit ?_
  refine ql (.int .i64 0) (by kernel_rfl) (by kernel_rfl) ?_
  refine wpList_nil ?_
  refine x_then ?_
  refine wp_seq ?_
  refine wp_seq ?_
  refine wp_region_lit ?_
  refine ql (.pointer none) (by kernel_rfl) (by kernel_rfl) ?_
  refine ql (.bool true) (by kernel_rfl) (by kernel_rfl) ?_
  refine wpList_nil ?_
  refine x_then ?_
  refine wp_cond_true (by kernel_rfl) ?_
  refine wp_seq ?_
  refine wp_region_lit ?_
  refine ql (.int .i64 0) (by kernel_rfl) (by kernel_rfl) ?_
  refine wpList_nil ?_
  refine x_then ?_
  refine wp_ret ?_
  refine x_thenR ?_
  refine ret_ (.int .i64 0) (by kernel_rfl) ?_
  exact ⟨rfl, HS⟩

set_option maxRecDepth 100000 in
set_option maxHeartbeats 1000000 in
theorem sat_in (g c : Nat) (A : Option Addr) (L : List Int) (k : Int) (W : World) (hz0 : W.cell? ⟨g, 0, none⟩ = some (.slice A L.length c)) (hr : Rd W A (ci .i32 L)) (hs : S31 L) (hl : L.length ≤ 100000) (h0 : 0 ≤ k) (h1 : k < L.length) : Calls Try.prog 12 #[.pointer (some ⟨g, 0, none⟩), .int .i64 k] W fun e W' => e = .returned (.tuple #[.int .i64 (rdI L k), .bool true]) ∧ St W (owns []) W' [] := by
  have HS : St W (owns []) W [] := St.start W _
  have hlx := hs.2 _ (mem_rd h0 h1)
  refine calls_enter [.pointer (some ⟨g, 0, none⟩), .int .i64 k, undef, undef, undef, undef, undef, undef, undef, undef, undef, undef, undef, undef, undef, undef, undef, undef, undef, undef, undef, undef] Try.func12 rfl (by kernel_rfl) ?_
  refine wp_seq ?_
  refine wp_region_lit ?_
  refine ql (.int .i64 0) (by kernel_rfl) (by kernel_rfl) ?_
  refine ql (.bool false) (by kernel_rfl) (by kernel_rfl) ?_
  refine wpList_nil ?_
  refine x_then ?_
  refine wp_seq ?_
  refine wp_seq ?_
  refine wp_region_lit ?_
  refine ql (.int .i64 k) (by kernel_rfl) (by kernel_rfl) ?_
  refine ql (.bool false) (by kernel_rfl) (R_nbool (p := k < (0 : Int)) (by kernel_rfl) (by omega)) ?_
  refine ql (.bool false) (by kernel_rfl) (by kernel_rfl) ?_
  refine ql (.int .i64 k) (by kernel_rfl) (by kernel_rfl) ?_
  refine ql (.pointer (some ⟨g, 0, none⟩)) (by kernel_rfl) (by kernel_rfl) ?_
  refine qc (f := 13) (args := #[.pointer (some ⟨g, 0, none⟩)]) (by kernel_rfl) (R_call #[.pointer (some ⟨g, 0, none⟩)] Try.func13 (by kernel_rfl) (by kernel_rfl) (by kernel_rfl)) ?_
  refine (slen g c A L _ (HS.old0 hz0) (hr.old0 HS) hs hl).mono ?_
  rintro e W1 ⟨rfl, H_⟩
  refine ⟨_, rfl, ?_⟩
  replace HS : St W (owns []) W1 [] := HS.join (F := []) (G := []) H_
  clear H_
  refine ql (.bool false) (by kernel_rfl) (R_nbool (p := k ≥ (L.length : Int)) (by kernel_rfl) (by omega)) ?_
  refine ql (.bool false) (by kernel_rfl) (by kernel_rfl) ?_
  refine wpList_nil ?_
  refine x_then ?_
  refine wp_cond_false (by kernel_rfl) ?_
  refine wp_skip ?_
  refine x_then ?_
  refine wp_seq ?_
  refine wp_region_lit ?_
  refine ql (.pointer (some ⟨g, 0, none⟩)) (by kernel_rfl) (by kernel_rfl) ?_
  refine ql (.pointer (some ⟨g, 0, none⟩)) (by kernel_rfl) (by kernel_rfl) ?_
  refine ql (.pointer (some ⟨g, 0, none⟩)) (by kernel_rfl) (by kernel_rfl) ?_
  refine ql (.slice A L.length c) (by kernel_rfl) (R_load (p := ⟨g, 0, none⟩) (by kernel_rfl) (by kernel_rfl) (by kernel_rfl) (HS.old0 hz0)) ?_
  refine ql (.int .i64 k) (by kernel_rfl) (by kernel_rfl) ?_
  obtain ⟨ad2, rfl⟩ := Rd.isSome_ hr (by rw [ci_len]; omega)
  refine ql (.pointer (some (ad2.add k.toNat))) (by kernel_rfl) (R_indexA1 (k := .i64) (p := ad2) (n := L.length) (c := c) (i := k) (by kernel_rfl) (by kernel_rfl) Try.underlying75 (by kernel_rfl) (by omega) (by omega)) ?_
  refine ql (.int .i32 (rdI L k)) (by kernel_rfl) (R_load (p := ad2.add k.toNat) (by kernel_rfl) (by kernel_rfl) (by kernel_rfl) (HS.old0 (hr.at_ (ci_rd (i := k) (by omega) (by omega))))) ?_
  refine ql (.int .i64 (rdI L k)) (by kernel_rfl) (R_int (by kernel_rfl) (w64 (by omega))) ?_
  refine ql (.int .i64 (rdI L k)) (by kernel_rfl) (by kernel_rfl) ?_
  refine ql (.bool true) (by kernel_rfl) (by kernel_rfl) ?_
  refine wpList_nil ?_
  refine x_then ?_
  refine wp_ret ?_
  refine ret_ (.tuple #[.int .i64 (rdI L k), .bool true]) (by kernel_rfl) ?_
  exact ⟨rfl, HS⟩

set_option maxRecDepth 100000 in
set_option maxHeartbeats 1000000 in
theorem sat_nil  (k : Int) (W : World)  : Calls Try.prog 12 #[.pointer none, .int .i64 k] W fun e W' => e = .returned (.tuple #[.int .i64 0, .bool false]) ∧ St W (owns []) W' [] := by
  have HS : St W (owns []) W [] := St.start W _
  refine calls_enter [.pointer none, .int .i64 k, undef, undef, undef, undef, undef, undef, undef, undef, undef, undef, undef, undef, undef, undef, undef, undef, undef, undef, undef, undef] Try.func12 rfl (by kernel_rfl) ?_
  refine wp_seq ?_
  refine wp_region_lit ?_
  refine ql (.int .i64 0) (by kernel_rfl) (by kernel_rfl) ?_
  refine ql (.bool false) (by kernel_rfl) (by kernel_rfl) ?_
  refine wpList_nil ?_
  refine x_then ?_
  refine wp_seq ?_
  refine wp_seq ?_
  refine wp_region_lit ?_
  refine ql (.int .i64 k) (by kernel_rfl) (by kernel_rfl) ?_
  by_cases hc1 : k < (0 : Int)
  · skip
    refine ql (.bool true) (by kernel_rfl) (R_bool (p := k < (0 : Int)) (by kernel_rfl) (hc1)) ?_
    refine ql (.bool true) (by kernel_rfl) (by kernel_rfl) ?_
    refine qln (by kernel_rfl) ?_
    refine qln (by kernel_rfl) ?_
    refine qln (by kernel_rfl) ?_
    refine qln (by kernel_rfl) ?_
    refine ql (.bool true) (by kernel_rfl) (by kernel_rfl) ?_
    refine wpList_nil ?_
    refine x_then ?_
    refine wp_cond_true (by kernel_rfl) ?_
    refine wp_seq ?_
    refine wp_region_lit ?_
    refine ql (.int .i64 0) (by kernel_rfl) (by kernel_rfl) ?_
    refine ql (.bool false) (by kernel_rfl) (by kernel_rfl) ?_
    refine wpList_nil ?_
    refine x_then ?_
    refine wp_ret ?_
    refine x_thenR ?_
    refine ret_ (.tuple #[.int .i64 0, .bool false]) (by kernel_rfl) ?_
    exact ⟨rfl, HS⟩
  · skip
    refine ql (.bool false) (by kernel_rfl) (R_nbool (p := k < (0 : Int)) (by kernel_rfl) (hc1)) ?_
    refine ql (.bool false) (by kernel_rfl) (by kernel_rfl) ?_
    refine ql (.int .i64 k) (by kernel_rfl) (by kernel_rfl) ?_
    refine ql (.pointer none) (by kernel_rfl) (by kernel_rfl) ?_
    refine qc (f := 13) (args := #[.pointer none]) (by kernel_rfl) (R_call #[.pointer none] Try.func13 (by kernel_rfl) (by kernel_rfl) (by kernel_rfl)) ?_
    refine (slen_nil _).mono ?_
    rintro e W2 ⟨rfl, H_⟩
    refine ⟨_, rfl, ?_⟩
    replace HS : St W (owns []) W2 [] := HS.join (F := []) (G := []) H_
    clear H_
    by_cases hc3 : k ≥ (0 : Int)
    · skip
      refine ql (.bool true) (by kernel_rfl) (R_bool (p := k ≥ (0 : Int)) (by kernel_rfl) (hc3)) ?_
      refine ql (.bool true) (by kernel_rfl) (by kernel_rfl) ?_
      refine wpList_nil ?_
      refine x_then ?_
      refine wp_cond_true (by kernel_rfl) ?_
      refine wp_seq ?_
      refine wp_region_lit ?_
      refine ql (.int .i64 0) (by kernel_rfl) (by kernel_rfl) ?_
      refine ql (.bool false) (by kernel_rfl) (by kernel_rfl) ?_
      refine wpList_nil ?_
      refine x_then ?_
      refine wp_ret ?_
      refine x_thenR ?_
      refine ret_ (.tuple #[.int .i64 0, .bool false]) (by kernel_rfl) ?_
      exact ⟨rfl, HS⟩
    · skip
      refine ql (.bool false) (by kernel_rfl) (R_nbool (p := k ≥ (0 : Int)) (by kernel_rfl) (hc3)) ?_
      refine ql (.bool false) (by kernel_rfl) (by kernel_rfl) ?_
      refine wpList_nil ?_
      refine x_then ?_
      refine wp_cond_false (by kernel_rfl) ?_
      refine wp_skip ?_
      refine x_then ?_
      refine wp_seq ?_
      exfalso; omega

set_option maxRecDepth 100000 in
set_option maxHeartbeats 1000000 in
theorem srank (g c : Nat) (A : Option Addr) (L : List Int) (i : Int) (W : World) (hz0 : W.cell? ⟨g, 0, none⟩ = some (.slice A L.length c)) (hr : Rd W A (ci .i32 L)) (hs : S31 L) (hl : L.length ≤ 100000) : Calls Try.prog 14 #[.pointer (some ⟨g, 0, none⟩), .int .i64 i] W fun e W' => e = .returned (.int .i64 (rk L i)) ∧ St W (owns []) W' [] := by
  have HS : St W (owns []) W [] := St.start W _
  refine calls_enter [.pointer (some ⟨g, 0, none⟩), .int .i64 i, undef, undef, undef, undef, undef, undef, undef, undef, undef, undef, undef, undef, undef, undef, undef, undef] Try.func14 rfl (by kernel_rfl) ?_
  refine wp_seq ?_
  refine wp_region_lit ?_
  refine ql (.int .i64 0) (by kernel_rfl) (by kernel_rfl) ?_
  refine wpList_nil ?_
  refine x_then ?_
  refine wp_seq ?_
  refine wp_seq ?_
  refine wp_region_lit ?_
  refine ql (.int .i64 i) (by kernel_rfl) (by kernel_rfl) ?_
  by_cases hc1 : i > (2147483647 : Int)
  · skip
    refine ql (.bool true) (by kernel_rfl) (R_bool (p := i > (2147483647 : Int)) (by kernel_rfl) (hc1)) ?_
    refine wpList_nil ?_
    refine x_then ?_
    refine wp_cond_true (by kernel_rfl) ?_
    refine wp_seq ?_
    refine wp_region_lit ?_
    refine ql (.pointer (some ⟨g, 0, none⟩)) (by kernel_rfl) (by kernel_rfl) ?_
    refine qc (f := 13) (args := #[.pointer (some ⟨g, 0, none⟩)]) (by kernel_rfl) (R_call #[.pointer (some ⟨g, 0, none⟩)] Try.func13 (by kernel_rfl) (by kernel_rfl) (by kernel_rfl)) ?_
    refine (slen g c A L _ (HS.old0 hz0) (hr.old0 HS) hs hl).mono ?_
    rintro e W2 ⟨rfl, H_⟩
    refine ⟨_, rfl, ?_⟩
    replace HS : St W (owns []) W2 [] := HS.join (F := []) (G := []) H_
    clear H_
    refine ql (.int .i64 (L.length : Int)) (by kernel_rfl) (by kernel_rfl) ?_
    refine wpList_nil ?_
    refine x_then ?_
    refine wp_ret ?_
    refine x_thenR ?_
    refine ret_ (.int .i64 (L.length : Int)) (by kernel_rfl) ?_
    exact ⟨by rw [hs.rkM (by omega)], HS⟩
  · skip
    refine ql (.bool false) (by kernel_rfl) (R_nbool (p := i > (2147483647 : Int)) (by kernel_rfl) (hc1)) ?_
    refine wpList_nil ?_
    refine x_then ?_
    refine wp_cond_false (by kernel_rfl) ?_
    refine wp_skip ?_
    refine x_then ?_
    refine wp_seq ?_
    refine wp_region_lit ?_
    refine ql (.pointer (some ⟨g, 0, none⟩)) (by kernel_rfl) (by kernel_rfl) ?_
    refine ql (.int .i64 i) (by kernel_rfl) (by kernel_rfl) ?_
    refine qc (f := 50) (args := #[.pointer (some ⟨g, 0, none⟩), .int .i64 i]) (by kernel_rfl) (R_call #[.pointer (some ⟨g, 0, none⟩), .int .i64 i] Try.func50 (by kernel_rfl) (by kernel_rfl) (by kernel_rfl)) ?_
    refine (splace g c A L i _ (HS.old0 hz0) (hr.old0 HS) hs hl).mono ?_
    rintro e W3 ⟨rfl, H_⟩
    refine ⟨_, rfl, ?_⟩
    replace HS : St W (owns []) W3 [] := HS.join (F := []) (G := []) H_
    clear H_
    refine ql (.tuple #[.int .i64 (plc L i), .bool (decide (i ∈ L))]) (by kernel_rfl) (by kernel_rfl) ?_
    refine ql (.int .i64 (plc L i)) (by kernel_rfl) (by kernel_rfl) ?_
    refine ql (.bool (decide (i ∈ L))) (by kernel_rfl) (by kernel_rfl) ?_
    refine ql (.int .i64 (plc L i)) (by kernel_rfl) (by kernel_rfl) ?_
    refine ql (.bool (decide (i ∈ L))) (by kernel_rfl) (by kernel_rfl) ?_
    refine wpList_nil ?_
    refine x_then ?_
    refine wp_seq ?_
    refine wp_region_lit ?_
    refine ql (.int .i64 (plc L i)) (by kernel_rfl) (by kernel_rfl) ?_
    refine ql (.int .i64 (plc L i)) (by kernel_rfl) (by kernel_rfl) ?_
    refine wpList_nil ?_
    refine x_then ?_
    refine wp_ret ?_
    refine ret_ (.int .i64 (plc L i)) (by kernel_rfl) ?_
    exact ⟨by rw [plc_in (by omega)], HS⟩

set_option maxRecDepth 100000 in
set_option maxHeartbeats 1000000 in
theorem srank_nil  (i : Int) (W : World)  : Calls Try.prog 14 #[.pointer none, .int .i64 i] W fun e W' => e = .returned (.int .i64 0) ∧ St W (owns []) W' [] := by
  have HS : St W (owns []) W [] := St.start W _
  refine calls_enter [.pointer none, .int .i64 i, undef, undef, undef, undef, undef, undef, undef, undef, undef, undef, undef, undef, undef, undef, undef, undef] Try.func14 rfl (by kernel_rfl) ?_
  refine wp_seq ?_
  refine wp_region_lit ?_
  refine ql (.int .i64 0) (by kernel_rfl) (by kernel_rfl) ?_
  refine wpList_nil ?_
  refine x_then ?_
  refine wp_seq ?_
  refine wp_seq ?_
  refine wp_region_lit ?_
  refine ql (.int .i64 i) (by kernel_rfl) (by kernel_rfl) ?_
  by_cases hc1 : i > (2147483647 : Int)
  · skip
    refine ql (.bool true) (by kernel_rfl) (R_bool (p := i > (2147483647 : Int)) (by kernel_rfl) (hc1)) ?_
    refine wpList_nil ?_
    refine x_then ?_
    refine wp_cond_true (by kernel_rfl) ?_
    refine wp_seq ?_
    refine wp_region_lit ?_
    refine ql (.pointer none) (by kernel_rfl) (by kernel_rfl) ?_
    refine qc (f := 13) (args := #[.pointer none]) (by kernel_rfl) (R_call #[.pointer none] Try.func13 (by kernel_rfl) (by kernel_rfl) (by kernel_rfl)) ?_
    refine (slen_nil _).mono ?_
    rintro e W2 ⟨rfl, H_⟩
    refine ⟨_, rfl, ?_⟩
    replace HS : St W (owns []) W2 [] := HS.join (F := []) (G := []) H_
    clear H_
    refine ql (.int .i64 0) (by kernel_rfl) (by kernel_rfl) ?_
    refine wpList_nil ?_
    refine x_then ?_
    refine wp_ret ?_
    refine x_thenR ?_
    refine ret_ (.int .i64 0) (by kernel_rfl) ?_
    exact ⟨rfl, HS⟩
  · skip
    refine ql (.bool false) (by kernel_rfl) (R_nbool (p := i > (2147483647 : Int)) (by kernel_rfl) (hc1)) ?_
    refine wpList_nil ?_
    refine x_then ?_
    refine wp_cond_false (by kernel_rfl) ?_
    refine wp_skip ?_
    refine x_then ?_
    refine wp_seq ?_
    refine wp_region_lit ?_
    refine ql (.pointer none) (by kernel_rfl) (by kernel_rfl) ?_
    refine ql (.int .i64 i) (by kernel_rfl) (by kernel_rfl) ?_
    refine qc (f := 50) (args := #[.pointer none, .int .i64 i]) (by kernel_rfl) (R_call #[.pointer none, .int .i64 i] Try.func50 (by kernel_rfl) (by kernel_rfl) (by kernel_rfl)) ?_
    refine (splace_nil i _).mono ?_
    rintro e W3 ⟨rfl, H_⟩
    refine ⟨_, rfl, ?_⟩
    replace HS : St W (owns []) W3 [] := HS.join (F := []) (G := []) H_
    clear H_
    refine ql (.tuple #[.int .i64 0, .bool false]) (by kernel_rfl) (by kernel_rfl) ?_
    refine ql (.int .i64 0) (by kernel_rfl) (by kernel_rfl) ?_
    refine ql (.bool false) (by kernel_rfl) (by kernel_rfl) ?_
    refine ql (.int .i64 0) (by kernel_rfl) (by kernel_rfl) ?_
    refine ql (.bool false) (by kernel_rfl) (by kernel_rfl) ?_
    refine wpList_nil ?_
    refine x_then ?_
    refine wp_seq ?_
    refine wp_region_lit ?_
    refine ql (.int .i64 0) (by kernel_rfl) (by kernel_rfl) ?_
    refine ql (.int .i64 0) (by kernel_rfl) (by kernel_rfl) ?_
    refine wpList_nil ?_
    refine x_then ?_
    refine wp_ret ?_
    refine ret_ (.int .i64 0) (by kernel_rfl) ?_
    exact ⟨rfl, HS⟩

theorem sinsert (A : Option Addr) (c gv : Nat) (L : List Int) (x p : Int) (W : World) (M : Nat → Prop) (HS : St W M W [row A L.length c (ci .i32 L) 21 1, row (some ⟨gv, 0, none⟩) 1 1 (ci .i32 [x]) 21 1]) (hl : L.length ≤ 100000) (hs : L.Pairwise (· < ·)) (hx : x ∉ L) (hp : p = rk L x) : Calls Try.prog 65 #[.slice A L.length c, .int .i64 p, .slice (some ⟨gv, 0, none⟩) 1 1] W fun e W' => ∃ A' c', e = .returned (.slice A' (ins x L).length c') ∧ St W M W' [row A' (ins x L).length c' (ci .i32 (ins x L)) 21 1] := by
  subst hp
  have h0 := rk_0 L x
  have h1 := rk_le L x
  have hi := ins_at hs hx
  obtain ⟨k, hk⟩ : ∃ k : Nat, rk L x = (k : Int) := ⟨(rk L x).toNat, by omega⟩
  rw [hk] at hi h0 h1 ⊢
  rw [Int.toNat_natCast] at hi
  rw [← hi]
  by_cases he : k = L.length
  · subst he; exact sins_end A c gv L x W M HS hl
  · obtain ⟨g, rfl⟩ := St.rsome HS (i := 0) rfl (by omega)
    have hm := (HS.rcap (i := 0) rfl).2
    obtain ⟨sp, hc, _, HS2⟩ := HS.openRow (i := 0) rfl
    exact sins_mid g c gv k L sp x W M (St.cast_ (HS2.rowBlk (i := 1) (n := 1) (cs := ci .i32 [x]) rfl) (by kernel_rfl)) hl hc hm (by omega)
set_option maxRecDepth 100000 in
set_option maxHeartbeats 1000000 in
theorem sadd (g c : Nat) (A : Option Addr) (L : List Int) (i : Int) (W : World) (M : Nat → Prop) (HS : St W M W [blk g [.slice A L.length c] 77, row A L.length c (ci .i32 L) 21 1]) (hs : S31 L) (hl : L.length ≤ 90000) : Calls Try.prog 32 #[.pointer (some ⟨g, 0, none⟩), .int .i64 i] W fun e W' => ∃ A' c', e = .returned (.bool (addB 2147483648 L i)) ∧ St W M W' [blk g [.slice A' ((addL 2147483648 L i).length) c'] 77, row A' ((addL 2147483648 L i).length) c' (ci .i32 (addL 2147483648 L i)) 21 1] := by
  refine calls_enter [.pointer (some ⟨g, 0, none⟩), .int .i64 i, undef, undef, undef, undef, undef, undef, undef, undef, undef, undef, undef, undef, undef, undef, undef, undef, undef, undef, undef, undef, undef, undef, undef, undef, undef, undef, undef, undef, undef, undef, undef, undef, undef, undef, undef, undef] Try.func32 rfl (by kernel_rfl) ?_
  refine wp_seq ?_
  refine wp_region_lit ?_
  refine ql (.bool false) (by kernel_rfl) (by kernel_rfl) ?_
  refine wpList_nil ?_
  refine x_then ?_
  refine wp_seq ?_
  refine wp_region_lit ?_
  refine ql (.pointer (some ⟨g, 0, none⟩)) (by kernel_rfl) (by kernel_rfl) ?_
  refine ql (.int .i64 i) (by kernel_rfl) (by kernel_rfl) ?_
  refine qc (f := 50) (args := #[.pointer (some ⟨g, 0, none⟩), .int .i64 i]) (by kernel_rfl) (R_call #[.pointer (some ⟨g, 0, none⟩), .int .i64 i] Try.func50 (by kernel_rfl) (by kernel_rfl) (by kernel_rfl)) ?_
  by_cases hv : i ∈ L
  · skip
    have hdx : decide (i ∈ L) = true := decide_eq_true hv
    refine (splace g c A L i _ (HS.cell (i := 0) (j := 0) rfl rfl) (Rd.row HS (i := 1) rfl) hs (by omega)).mono ?_
    rintro e W1 ⟨rfl, H_⟩
    rw [hdx]
    refine ⟨_, rfl, ?_⟩
    replace HS : St W M W1 [blk g [.slice A L.length c] 77, row A L.length c (ci .i32 L) 21 1] := HS.join (F := []) (G := []) H_
    clear H_
    refine ql (.tuple #[.int .i64 (plc L i), .bool true]) (by kernel_rfl) (by kernel_rfl) ?_
    refine ql (.int .i64 (plc L i)) (by kernel_rfl) (by kernel_rfl) ?_
    refine ql (.bool true) (by kernel_rfl) (by kernel_rfl) ?_
    refine ql (.int .i64 (plc L i)) (by kernel_rfl) (by kernel_rfl) ?_
    refine ql (.bool true) (by kernel_rfl) (by kernel_rfl) ?_
    refine wpList_nil ?_
    refine x_then ?_
    refine wp_seq ?_
    refine wp_seq ?_
    refine wp_region_lit ?_
    refine ql (.bool true) (by kernel_rfl) (by kernel_rfl) ?_
    refine ql (.bool true) (by kernel_rfl) (by kernel_rfl) ?_
    refine qln (by kernel_rfl) ?_
    refine qln (by kernel_rfl) ?_
    refine ql (.bool true) (by kernel_rfl) (by kernel_rfl) ?_
    refine ql (.bool true) (by kernel_rfl) (by kernel_rfl) ?_
    refine qln (by kernel_rfl) ?_
    refine qln (by kernel_rfl) ?_
    refine ql (.bool true) (by kernel_rfl) (by kernel_rfl) ?_
    refine ql (.bool true) (by kernel_rfl) (by kernel_rfl) ?_
    refine qln (by kernel_rfl) ?_
    refine qln (by kernel_rfl) ?_
    refine ql (.bool true) (by kernel_rfl) (by kernel_rfl) ?_
    refine wpList_nil ?_
    refine x_then ?_
    refine wp_cond_true (by kernel_rfl) ?_
    refine wp_seq ?_
    refine wp_region_lit ?_
    refine ql (.bool false) (by kernel_rfl) (by kernel_rfl) ?_
    refine wpList_nil ?_
    refine x_then ?_
    refine wp_ret ?_
    refine x_thenR ?_
    refine ret_ (.bool false) (by kernel_rfl) ?_
    have ha := addL_out (n := 2147483648) (i := i) (L := L) (.inr (.inr hv))
    exact ⟨A, c, by rw [ha.2], by rw [ha.1]; exact HS⟩
  · skip
    have hdx : decide (i ∈ L) = false := decide_eq_false hv
    refine (splace g c A L i _ (HS.cell (i := 0) (j := 0) rfl rfl) (Rd.row HS (i := 1) rfl) hs (by omega)).mono ?_
    rintro e W2 ⟨rfl, H_⟩
    rw [hdx]
    refine ⟨_, rfl, ?_⟩
    replace HS : St W M W2 [blk g [.slice A L.length c] 77, row A L.length c (ci .i32 L) 21 1] := HS.join (F := []) (G := []) H_
    clear H_
    refine ql (.tuple #[.int .i64 (plc L i), .bool false]) (by kernel_rfl) (by kernel_rfl) ?_
    refine ql (.int .i64 (plc L i)) (by kernel_rfl) (by kernel_rfl) ?_
    refine ql (.bool false) (by kernel_rfl) (by kernel_rfl) ?_
    refine ql (.int .i64 (plc L i)) (by kernel_rfl) (by kernel_rfl) ?_
    refine ql (.bool false) (by kernel_rfl) (by kernel_rfl) ?_
    refine wpList_nil ?_
    refine x_then ?_
    refine wp_seq ?_
    refine wp_seq ?_
    refine wp_region_lit ?_
    refine ql (.bool false) (by kernel_rfl) (by kernel_rfl) ?_
    refine ql (.bool false) (by kernel_rfl) (by kernel_rfl) ?_
    refine ql (.pointer (some ⟨g, 0, none⟩)) (by kernel_rfl) (by kernel_rfl) ?_
    refine ql (.bool false) (by kernel_rfl) (by kernel_rfl) ?_
    refine ql (.bool false) (by kernel_rfl) (by kernel_rfl) ?_
    refine ql (.bool false) (by kernel_rfl) (by kernel_rfl) ?_
    refine ql (.int .i64 i) (by kernel_rfl) (by kernel_rfl) ?_
    by_cases hc3 : i < (0 : Int)
    · skip
      refine ql (.bool true) (by kernel_rfl) (R_bool (p := i < (0 : Int)) (by kernel_rfl) (hc3)) ?_
      refine ql (.bool true) (by kernel_rfl) (by kernel_rfl) ?_
      refine ql (.bool true) (by kernel_rfl) (by kernel_rfl) ?_
      refine qln (by kernel_rfl) ?_
      refine qln (by kernel_rfl) ?_
      refine ql (.bool true) (by kernel_rfl) (by kernel_rfl) ?_
      refine wpList_nil ?_
      refine x_then ?_
      refine wp_cond_true (by kernel_rfl) ?_
      refine wp_seq ?_
      refine wp_region_lit ?_
      refine ql (.bool false) (by kernel_rfl) (by kernel_rfl) ?_
      refine wpList_nil ?_
      refine x_then ?_
      refine wp_ret ?_
      refine x_thenR ?_
      refine ret_ (.bool false) (by kernel_rfl) ?_
      have ha := addL_out (n := 2147483648) (i := i) (L := L) (by omega)
      exact ⟨A, c, by rw [ha.2], by rw [ha.1]; exact HS⟩
    · skip
      refine ql (.bool false) (by kernel_rfl) (R_nbool (p := i < (0 : Int)) (by kernel_rfl) (hc3)) ?_
      refine ql (.bool false) (by kernel_rfl) (by kernel_rfl) ?_
      refine ql (.bool false) (by kernel_rfl) (by kernel_rfl) ?_
      refine ql (.int .i64 i) (by kernel_rfl) (by kernel_rfl) ?_
      by_cases hc4 : i > (2147483647 : Int)
      · skip
        refine ql (.bool true) (by kernel_rfl) (R_bool (p := i > (2147483647 : Int)) (by kernel_rfl) (hc4)) ?_
        refine ql (.bool true) (by kernel_rfl) (by kernel_rfl) ?_
        refine wpList_nil ?_
        refine x_then ?_
        refine wp_cond_true (by kernel_rfl) ?_
        refine wp_seq ?_
        refine wp_region_lit ?_
        refine ql (.bool false) (by kernel_rfl) (by kernel_rfl) ?_
        refine wpList_nil ?_
        refine x_then ?_
        refine wp_ret ?_
        refine x_thenR ?_
        refine ret_ (.bool false) (by kernel_rfl) ?_
        have ha := addL_out (n := 2147483648) (i := i) (L := L) (by omega)
        exact ⟨A, c, by rw [ha.2], by rw [ha.1]; exact HS⟩
      · skip
        refine ql (.bool false) (by kernel_rfl) (R_nbool (p := i > (2147483647 : Int)) (by kernel_rfl) (hc4)) ?_
        refine ql (.bool false) (by kernel_rfl) (by kernel_rfl) ?_
        refine wpList_nil ?_
        refine x_then ?_
        refine wp_cond_false (by kernel_rfl) ?_
        refine wp_skip ?_
        refine x_then ?_
        refine wp_seq ?_
        refine wp_region_lit ?_
        refine ql (.pointer (some ⟨g, 0, none⟩)) (by kernel_rfl) (by kernel_rfl) ?_
        refine ql (.pointer (some ⟨g, 0, none⟩)) (by kernel_rfl) (by kernel_rfl) ?_
        refine ql (.pointer (some ⟨g, 0, none⟩)) (by kernel_rfl) (by kernel_rfl) ?_
        refine ql (.pointer (some ⟨g, 0, none⟩)) (by kernel_rfl) (by kernel_rfl) ?_
        refine ql (.slice A L.length c) (by kernel_rfl) (R_load (p := ⟨g, 0, none⟩) (by kernel_rfl) (by kernel_rfl) (by kernel_rfl) (HS.cell (i := 0) (j := 0) rfl rfl)) ?_
        refine ql (.int .i64 (plc L i)) (by kernel_rfl) (by kernel_rfl) ?_
        refine ql (.int .i64 i) (by kernel_rfl) (by kernel_rfl) ?_
        refine ql (.int .i32 i) (by kernel_rfl) (R_int (by kernel_rfl) (w32 (by omega))) ?_
        refine kl HS 1 [.int .i32 i] 21 1 (by kernel_rfl) (by kernel_rfl) rfl (by decide) ?_
        intro g5 W6 H_
        replace HS : St W M W6 [row (some ⟨g5, 0, none⟩) 1 1 (ci .i32 ([i])) 21 1, blk g [.slice A L.length c] 77, row A L.length c (ci .i32 L) 21 1] := H_.cast_ (by kernel_rfl)
        clear H_
        refine qc (f := 65) (args := #[.slice A L.length c, .int .i64 (plc L i), .slice (some ⟨g5, 0, none⟩) 1 1]) (by kernel_rfl) (R_call #[.slice A L.length c, .int .i64 (plc L i), .slice (some ⟨g5, 0, none⟩) 1 1] Try.func65 (by kernel_rfl) (by kernel_rfl) (by kernel_rfl)) ?_
        replace HS : St W M W6 [row A L.length c (ci .i32 L) 21 1, row (some ⟨g5, 0, none⟩) 1 1 (ci .i32 ([i])) 21 1, blk g [.slice A L.length c] 77] := HS.perm (perm_ [2, 0, 1] (by kernel_rfl) rfl)
        refine (sinsert A c g5 L i (plc L i) _ _ (St.focus (F := [row A L.length c (ci .i32 L) 21 1, row (some ⟨g5, 0, none⟩) 1 1 (ci .i32 ([i])) 21 1]) HS) (by omega) hs.1 hv (plc_in (by omega))).mono ?_
        rintro e W9 ⟨A7, c8, rfl, H_⟩
        refine ⟨_, rfl, ?_⟩
        replace HS : St W M W9 [row A7 ((ins i L).length) c8 (ci .i32 (ins i L)) 21 1, blk g [.slice A L.length c] 77] := HS.join (F := [row A L.length c (ci .i32 L) 21 1, row (some ⟨g5, 0, none⟩) 1 1 (ci .i32 ([i])) 21 1]) (G := [row A7 ((ins i L).length) c8 (ci .i32 (ins i L)) 21 1]) H_
        clear H_
        refine ql (.pointer (some ⟨g, 0, none⟩)) (by kernel_rfl) (by kernel_rfl) ?_
        refine ql (.pointer (some ⟨g, 0, none⟩)) (by kernel_rfl) (by kernel_rfl) ?_
        refine ks (v := .slice A7 ((ins i L).length) c8) HS 1 rfl (0) [.slice A7 ((ins i L).length) c8] (by kernel_rfl) (by kernel_rfl) (by kernel_rfl) (by kernel_rfl) (by kernel_rfl) (one_ (by kernel_rfl)) (Nat.le_of_ble_eq_true rfl) rfl ?_
        intro W10 H_
        replace HS : St W M W10 [row A7 ((ins i L).length) c8 (ci .i32 (ins i L)) 21 1, blk g [.slice A7 ((ins i L).length) c8] 77] := H_
        clear H_
        refine wpList_nil ?_
        refine x_then ?_
        refine wp_seq ?_
        refine wp_region_lit ?_
        refine ql (.bool true) (by kernel_rfl) (by kernel_rfl) ?_
        refine wpList_nil ?_
        refine x_then ?_
        refine wp_ret ?_
        refine ret_ (.bool true) (by kernel_rfl) ?_
        replace HS : St W M W10 [blk g [.slice A7 ((ins i L).length) c8] 77, row A7 ((ins i L).length) c8 (ci .i32 (ins i L)) 21 1] := St.tail (F := []) (HS.perm (perm_ [1, 0] (by kernel_rfl) rfl))
        have ha := addL_in (n := 2147483648) (i := i) (L := L) (by omega) (by omega) hv
        exact ⟨_, _, by rw [ha.2], by rw [ha.1]; exact HS⟩

set_option maxRecDepth 100000 in
set_option maxHeartbeats 1000000 in
theorem sadd_nil  (i : Int) (W : World)  : Calls Try.prog 32 #[.pointer none, .int .i64 i] W fun e W' => e = .returned (.bool false) ∧ St W (owns []) W' [] := by
  have HS : St W (owns []) W [] := St.start W _
  refine calls_enter [.pointer none, .int .i64 i, undef, undef, undef, undef, undef, undef, undef, undef, undef, undef, undef, undef, undef, undef, undef, undef, undef, undef, undef, undef, undef, undef, undef, undef, undef, undef, undef, undef, undef, undef, undef, undef, undef, undef, undef, undef] Try.func32 rfl (by kernel_rfl) ?_
  refine wp_seq ?_
  refine wp_region_lit ?_
  refine ql (.bool false) (by kernel_rfl) (by kernel_rfl) ?_
  refine wpList_nil ?_
  refine x_then ?_
  refine wp_seq ?_
  refine wp_region_lit ?_
  refine ql (.pointer none) (by kernel_rfl) (by kernel_rfl) ?_
  refine ql (.int .i64 i) (by kernel_rfl) (by kernel_rfl) ?_
  refine qc (f := 50) (args := #[.pointer none, .int .i64 i]) (by kernel_rfl) (R_call #[.pointer none, .int .i64 i] Try.func50 (by kernel_rfl) (by kernel_rfl) (by kernel_rfl)) ?_
  refine (splace_nil i _).mono ?_
  rintro e W1 ⟨rfl, H_⟩
  refine ⟨_, rfl, ?_⟩
  replace HS : St W (owns []) W1 [] := HS.join (F := []) (G := []) H_
  clear H_
  refine ql (.tuple #[.int .i64 0, .bool false]) (by kernel_rfl) (by kernel_rfl) ?_
  refine ql (.int .i64 0) (by kernel_rfl) (by kernel_rfl) ?_
  refine ql (.bool false) (by kernel_rfl) (by kernel_rfl) ?_
  refine ql (.int .i64 0) (by kernel_rfl) (by kernel_rfl) ?_
  refine ql (.bool false) (by kernel_rfl) (by kernel_rfl) ?_
  refine wpList_nil ?_
  refine x_then ?_
  refine wp_seq ?_
  refine wp_seq ?_
  refine wp_region_lit ?_
  refine ql (.bool false) (by kernel_rfl) (by kernel_rfl) ?_
  refine ql (.bool false) (by kernel_rfl) (by kernel_rfl) ?_
  refine ql (.pointer none) (by kernel_rfl) (by kernel_rfl) ?_
  refine ql (.bool true) (by kernel_rfl) (by kernel_rfl) ?_
  refine ql (.bool true) (by kernel_rfl) (by kernel_rfl) ?_
  refine ql (.bool true) (by kernel_rfl) (by kernel_rfl) ?_
  refine qln (by kernel_rfl) ?_
  refine qln (by kernel_rfl) ?_
  refine ql (.bool true) (by kernel_rfl) (by kernel_rfl) ?_
  refine ql (.bool true) (by kernel_rfl) (by kernel_rfl) ?_
  refine qln (by kernel_rfl) ?_
  refine qln (by kernel_rfl) ?_
  refine ql (.bool true) (by kernel_rfl) (by kernel_rfl) ?_
  refine wpList_nil ?_
  refine x_then ?_
  refine wp_cond_true (by kernel_rfl) ?_
  refine wp_seq ?_
  refine wp_region_lit ?_
  refine ql (.bool false) (by kernel_rfl) (by kernel_rfl) ?_
  refine wpList_nil ?_
  refine x_then ?_
  refine wp_ret ?_
  refine x_thenR ?_
  refine ret_ (.bool false) (by kernel_rfl) ?_
  exact ⟨rfl, HS⟩

set_option maxRecDepth 100000 in
set_option maxHeartbeats 1000000 in
theorem sdel_nil  (i : Int) (W : World)  : Calls Try.prog 33 #[.pointer none, .int .i64 i] W fun e W' => e = .returned (.bool false) ∧ St W (owns []) W' [] := by
  have HS : St W (owns []) W [] := St.start W _
  refine calls_enter [.pointer none, .int .i64 i, undef, undef, undef, undef, undef, undef, undef, undef, undef, undef, undef, undef, undef, undef, undef, undef, undef, undef, undef, undef, undef, undef, undef, undef] Try.func33 rfl (by kernel_rfl) ?_
  refine wp_seq ?_
  refine wp_region_lit ?_
  refine ql (.bool false) (by kernel_rfl) (by kernel_rfl) ?_
  refine wpList_nil ?_
  refine x_then ?_
  refine wp_seq ?_
  refine wp_region_lit ?_
  refine ql (.pointer none) (by kernel_rfl) (by kernel_rfl) ?_
  refine ql (.int .i64 i) (by kernel_rfl) (by kernel_rfl) ?_
  refine qc (f := 50) (args := #[.pointer none, .int .i64 i]) (by kernel_rfl) (R_call #[.pointer none, .int .i64 i] Try.func50 (by kernel_rfl) (by kernel_rfl) (by kernel_rfl)) ?_
  refine (splace_nil i _).mono ?_
  rintro e W1 ⟨rfl, H_⟩
  refine ⟨_, rfl, ?_⟩
  replace HS : St W (owns []) W1 [] := HS.join (F := []) (G := []) H_
  clear H_
  refine ql (.tuple #[.int .i64 0, .bool false]) (by kernel_rfl) (by kernel_rfl) ?_
  refine ql (.int .i64 0) (by kernel_rfl) (by kernel_rfl) ?_
  refine ql (.bool false) (by kernel_rfl) (by kernel_rfl) ?_
  refine ql (.int .i64 0) (by kernel_rfl) (by kernel_rfl) ?_
  refine ql (.bool false) (by kernel_rfl) (by kernel_rfl) ?_
  refine wpList_nil ?_
  refine x_then ?_
  refine wp_seq ?_
  refine wp_seq ?_
  refine wp_region_lit ?_
  refine ql (.bool false) (by kernel_rfl) (by kernel_rfl) ?_
  refine wpList_nil ?_
  refine x_then ?_
  refine wp_cond_false (by kernel_rfl) ?_
  refine wp_skip ?_
  refine x_then ?_
  refine wp_seq ?_
  refine wp_region_lit ?_
  refine ql (.bool false) (by kernel_rfl) (by kernel_rfl) ?_
  refine ql (.bool false) (by kernel_rfl) (by kernel_rfl) ?_
  refine wpList_nil ?_
  refine x_then ?_
  refine wp_ret ?_
  refine ret_ (.bool false) (by kernel_rfl) ?_
  exact ⟨rfl, HS⟩

open Go.Shelf
set_option maxRecDepth 100000 in
set_option maxHeartbeats 1000000 in
theorem sor_nl  (h : Nat) (W : World)  : Calls Try.prog 17 #[.pointer none, .pointer (some ⟨h, 0, none⟩)] W fun e W' => e = .returned (.bool false) ∧ St W (owns []) W' [] := by
  have HS : St W (owns []) W [] := St.start W _
  refine calls_enter ((.pointer none) :: (.pointer (some ⟨h, 0, none⟩)) :: undef :: undef :: undef :: undef :: undef :: undef :: undef :: undef :: undef :: undef :: undef :: undef :: undef :: undef :: undef :: undef :: undef :: undef :: undef :: undef :: undef :: undef :: undef :: undef :: undef :: undef :: undef :: undef :: undef :: undef :: undef :: undef :: undef :: undef :: undef :: undef :: undef :: undef :: undef :: undef :: undef :: undef :: undef :: undef :: undef :: undef :: undef :: undef :: undef :: undef :: undef :: undef :: undef :: undef :: undef :: undef :: undef :: undef :: undef :: undef :: undef :: undef :: undef :: undef :: undef :: undef :: undef :: undef :: undef :: undef :: undef :: undef :: undef :: undef :: undef :: undef :: undef :: undef :: undef :: undef :: undef :: undef :: undef :: undef :: undef :: undef :: undef :: undef :: undef :: undef :: undef :: undef :: undef :: undef :: undef :: undef :: undef :: undef :: undef :: undef :: undef :: []) Try.func17 rfl (by kernel_rfl) ?_
  refine wp_seq ?_
  refine wp_region_lit ?_
  refine ql (.bool false) (by kernel_rfl) (by kernel_rfl) ?_
  refine wpList_nil ?_
  refine x_then ?_
  refine wp_seq ?_
  refine wp_seq ?_
  refine wp_region_lit ?_
  refine ql (.pointer none) (by kernel_rfl) (by kernel_rfl) ?_
  refine ql (.bool true) (by kernel_rfl) (by kernel_rfl) ?_
  refine ql (.bool true) (by kernel_rfl) (by kernel_rfl) ?_
  refine qln (by kernel_rfl) ?_
  refine qln (by kernel_rfl) ?_
  refine ql (.bool true) (by kernel_rfl) (by kernel_rfl) ?_
  refine wpList_nil ?_
  refine x_then ?_
  refine wp_cond_true (by kernel_rfl) ?_
  refine wp_seq ?_
  refine wp_region_lit ?_
  refine ql (.bool false) (by kernel_rfl) (by kernel_rfl) ?_
  refine wpList_nil ?_
  refine x_then ?_
  refine wp_ret ?_
  refine x_thenR ?_
  refine ret_ (.bool false) (by kernel_rfl) ?_
  exact ⟨rfl, HS⟩

set_option maxRecDepth 100000 in
set_option maxHeartbeats 1000000 in
theorem sor_nr  (g : Nat) (W : World)  : Calls Try.prog 17 #[.pointer (some ⟨g, 0, none⟩), .pointer none] W fun e W' => e = .returned (.bool false) ∧ St W (owns []) W' [] := by
  have HS : St W (owns []) W [] := St.start W _
  refine calls_enter ((.pointer (some ⟨g, 0, none⟩)) :: (.pointer none) :: undef :: undef :: undef :: undef :: undef :: undef :: undef :: undef :: undef :: undef :: undef :: undef :: undef :: undef :: undef :: undef :: undef :: undef :: undef :: undef :: undef :: undef :: undef :: undef :: undef :: undef :: undef :: undef :: undef :: undef :: undef :: undef :: undef :: undef :: undef :: undef :: undef :: undef :: undef :: undef :: undef :: undef :: undef :: undef :: undef :: undef :: undef :: undef :: undef :: undef :: undef :: undef :: undef :: undef :: undef :: undef :: undef :: undef :: undef :: undef :: undef :: undef :: undef :: undef :: undef :: undef :: undef :: undef :: undef :: undef :: undef :: undef :: undef :: undef :: undef :: undef :: undef :: undef :: undef :: undef :: undef :: undef :: undef :: undef :: undef :: undef :: undef :: undef :: undef :: undef :: undef :: undef :: undef :: undef :: undef :: undef :: undef :: undef :: undef :: undef :: undef :: []) Try.func17 rfl (by kernel_rfl) ?_
  refine wp_seq ?_
  refine wp_region_lit ?_
  refine ql (.bool false) (by kernel_rfl) (by kernel_rfl) ?_
  refine wpList_nil ?_
  refine x_then ?_
  refine wp_seq ?_
  refine wp_seq ?_
  refine wp_region_lit ?_
  refine ql (.pointer (some ⟨g, 0, none⟩)) (by kernel_rfl) (by kernel_rfl) ?_
  refine ql (.bool false) (by kernel_rfl) (by kernel_rfl) ?_
  refine ql (.bool false) (by kernel_rfl) (by kernel_rfl) ?_
  refine ql (.pointer none) (by kernel_rfl) (by kernel_rfl) ?_
  refine ql (.bool true) (by kernel_rfl) (by kernel_rfl) ?_
  refine ql (.bool true) (by kernel_rfl) (by kernel_rfl) ?_
  refine wpList_nil ?_
  refine x_then ?_
  refine wp_cond_true (by kernel_rfl) ?_
  refine wp_seq ?_
  refine wp_region_lit ?_
  refine ql (.bool false) (by kernel_rfl) (by kernel_rfl) ?_
  refine wpList_nil ?_
  refine x_then ?_
  refine wp_ret ?_
  refine x_thenR ?_
  refine ret_ (.bool false) (by kernel_rfl) ?_
  exact ⟨rfl, HS⟩

set_option maxRecDepth 100000 in
set_option maxHeartbeats 1000000 in
theorem sall (g : Nat) (W : World) : Calls Try.prog 34 #[.pointer (some ⟨g, 0, none⟩)] W fun e W' => ∃ b, e = .returned (.func (.func 67) #[] #[.pointer (some ⟨b, 0, none⟩)]) ∧ St W (owns []) W' [blk b [.pointer (some ⟨g, 0, none⟩)] 24] := by
  have HS : St W (owns []) W [] := St.start W _
  refine calls_enter [.pointer (some ⟨g, 0, none⟩), undef, undef, undef] Try.func34 rfl (by kernel_rfl) ?_
  refine wp_seq ?_
  refine wp_region_lit ?_
  refine kb HS [.pointer (some ⟨g, 0, none⟩)] 24 (fun g => .pointer (some ⟨g, 0, none⟩)) (by kernel_rfl) (by kernel_rfl) ?_
  intro g1 W2 H_
  replace HS : St W (owns []) W2 [blk g1 [.pointer (some ⟨g, 0, none⟩)] 24] := H_
  clear H_
  refine ql (.nilFunc) (by kernel_rfl) (by kernel_rfl) ?_
  refine wpList_nil ?_
  refine x_then ?_
  refine wp_seq ?_
  refine wp_region_lit ?_
  refine ql (.func (.func 67) #[] #[.pointer (some ⟨g1, 0, none⟩)]) (by kernel_rfl) (by kernel_rfl) ?_
  refine ql (.func (.func 67) #[] #[.pointer (some ⟨g1, 0, none⟩)]) (by kernel_rfl) (by kernel_rfl) ?_
  refine wpList_nil ?_
  refine x_then ?_
  refine wp_ret ?_
  refine ret_ (.func (.func 67) #[] #[.pointer (some ⟨g1, 0, none⟩)]) (by kernel_rfl) ?_
  exact ⟨_, rfl, HS⟩

set_option maxRecDepth 100000 in
set_option maxHeartbeats 1000000 in
theorem sall_nil (W : World) : Calls Try.prog 34 #[.pointer none] W fun e W' => ∃ b, e = .returned (.func (.func 67) #[] #[.pointer (some ⟨b, 0, none⟩)]) ∧ St W (owns []) W' [blk b [.pointer none] 24] := by
  have HS : St W (owns []) W [] := St.start W _
  refine calls_enter [.pointer none, undef, undef, undef] Try.func34 rfl (by kernel_rfl) ?_
  refine wp_seq ?_
  refine wp_region_lit ?_
  refine kb HS [.pointer none] 24 (fun g => .pointer (some ⟨g, 0, none⟩)) (by kernel_rfl) (by kernel_rfl) ?_
  intro g1 W2 H_
  replace HS : St W (owns []) W2 [blk g1 [.pointer none] 24] := H_
  clear H_
  refine ql (.nilFunc) (by kernel_rfl) (by kernel_rfl) ?_
  refine wpList_nil ?_
  refine x_then ?_
  refine wp_seq ?_
  refine wp_region_lit ?_
  refine ql (.func (.func 67) #[] #[.pointer (some ⟨g1, 0, none⟩)]) (by kernel_rfl) (by kernel_rfl) ?_
  refine ql (.func (.func 67) #[] #[.pointer (some ⟨g1, 0, none⟩)]) (by kernel_rfl) (by kernel_rfl) ?_
  refine wpList_nil ?_
  refine x_then ?_
  refine wp_ret ?_
  refine ret_ (.func (.func 67) #[] #[.pointer (some ⟨g1, 0, none⟩)]) (by kernel_rfl) ?_
  exact ⟨_, rfl, HS⟩

set_option maxRecDepth 100000 in
set_option maxHeartbeats 1000000 in
theorem sall_stops (b : Nat) (g c : Nat) (A : Option Addr) (L : List Int) (W : World) (hb : W.cell? ⟨b, 0, none⟩ = some (.pointer (some ⟨g, 0, none⟩))) (hz0 : W.cell? ⟨g, 0, none⟩ = some (.slice A L.length c)) (hr : Rd W A (ci .i32 L)) (hs : S31 L) (hl : L.length ≤ 100000) (m : Nat) : SeqStopsK Fence.wide m Try.prog 67 #[.pointer (some ⟨b, 0, none⟩)] encI (SpK b g c A L) (fun xs => xs = L) (fun pre => pre <+: L) L.length W := by
  intro l J Jx WA hW hJ hJx hY h0
  have HD0 := (show SpT b g c A L W from ⟨hb, hz0, hr⟩).below hW
  clear hb hz0 hr hW
  have HDc := HD0
  obtain ⟨hb, hz0, hr⟩ := HDc
  have hJ0 := h0
  refine (callsIn_wide (n := m)).2 ?_
  have HS : St WA (owns []) WA [] := St.start WA _
  refine calls_enter [.func (.yield l) #[] #[], .pointer (some ⟨b, 0, none⟩), undef, undef, undef, undef, undef, undef, undef, undef, undef, undef, undef, undef, undef, undef, undef, undef, undef, undef, undef] Try.func67 rfl (by kernel_rfl) ?_
  refine wp_seq ?_
  refine wp_region_lit ?_
  refine ql (.pointer (some ⟨g, 0, none⟩)) (by kernel_rfl) (R_load (p := ⟨b, 0, none⟩) (by kernel_rfl) (by kernel_rfl) (by kernel_rfl) (HS.old0 hb)) ?_
  refine qc (f := 13) (args := #[.pointer (some ⟨g, 0, none⟩)]) (by kernel_rfl) (R_call #[.pointer (some ⟨g, 0, none⟩)] Try.func13 (by kernel_rfl) (by kernel_rfl) (by kernel_rfl)) ?_
  refine (slen g c A L _ (HS.old0 hz0) (hr.old0 HS) hs hl).mono ?_
  rintro e W1 ⟨rfl, H_⟩
  refine ⟨_, rfl, ?_⟩
  replace HS : St WA (owns []) W1 [] := HS.join (F := []) (G := []) H_
  clear H_
  refine ql (.int .i64 0) (by kernel_rfl) (by kernel_rfl) ?_
  refine wpList_nil ?_
  refine x_then ?_
  refine wp_block ?_
  have HB := HS.kept.below owns_nil
  have HD := HD0.below HB
  have HJ := hJ _ _ _ none h0 HS.grownBy0 (fun _ h_ => nomatch h_)
  refine wp_loop_ghost (fun kq a' w' => ∃ (J1 : Nat → Value) (i : Int), a' = Fr [.func (.yield l) #[] #[], .pointer (some ⟨b, 0, none⟩), undef, (J1 3), .pointer (some ⟨g, 0, none⟩), .int .i64 (L.length : Int), .int .i64 i, (J1 7), (J1 8), (J1 9), (J1 10), (J1 11), (J1 12), (J1 13), (J1 14), (J1 15), (J1 16), (J1 17), (J1 18), (J1 19), (J1 20)] ∧ kq = L.length - i.toNat ∧ 0 ≤ i ∧ i ≤ L.length ∧ SpT b g c A L w' ∧ J (L.take i.toNat) w') L.length ⟨(fun k_ : Nat => List.getD [.func (.yield l) #[] #[], .pointer (some ⟨b, 0, none⟩), undef, undef, .pointer (some ⟨g, 0, none⟩), .int .i64 (L.length : Int), .int .i64 0, undef, undef, undef, undef, undef, undef, undef, undef, undef, undef, undef, undef, undef, undef] k_ undef), 0, congrArg Fr (by kernel_rfl), rfl, by omega, by omega, HD, HJ⟩ ?_
  clear HS HB HD HJ hJ0 HD0 hb hz0 hr
  intro kq a' WB hrel
  obtain ⟨J1, i, rfl, hk, i0, i1, HD, HJ⟩ := hrel
  have HDc := HD
  obtain ⟨hb, hz0, hr⟩ := HDc
  have HS : St WB (owns []) WB [] := St.start WB _
  by_cases hil : i < (L.length : Int)
  · skip
    have hdc := drop_cons i0 hil
    have htk : L.take (i + 1).toNat = L.take i.toNat ++ [rdI L i] := by rw [show (i + 1).toNat = i.toNat + 1 by omega, List.take_add_one, rdI_eq i0 hil]; rfl
    have hlx := hs.2 _ (mem_rd i0 hil)
    have hY1 := hY (L.take i.toNat) (rdI L i) WB HJ (by rw [List.length_take]; omega)
    refine wp_seq ?_
    refine wp_region_lit ?_
    refine ql (.bool true) (by kernel_rfl) (R_bool (p := i < (L.length : Int)) (by kernel_rfl) (by omega)) ?_
    refine wpList_nil ?_
    refine x_then ?_
    refine wp_seq ?_
    refine wp_cond_true (by kernel_rfl) ?_
    refine wp_skip ?_
    refine x_then ?_
    refine wp_seq ?_
    refine wp_block ?_
    refine wp_seq ?_
    refine wp_region_lit ?_
    refine ql (.int .i64 i) (by kernel_rfl) (by kernel_rfl) ?_
    refine ql (.int .i64 i) (by kernel_rfl) (by kernel_rfl) ?_
    refine wpList_nil ?_
    refine x_then ?_
    refine wp_seq ?_
    refine wp_region_yield ?_
    refine yq (.func (.yield l) #[] #[]) (by kernel_rfl) (by intro c_ h_; cases h_) (by kernel_rfl) ?_
    refine yq (.pointer (some ⟨g, 0, none⟩)) (by kernel_rfl) (by intro c_ h_; cases h_) (R_load (p := ⟨b, 0, none⟩) (by kernel_rfl) (by kernel_rfl) (by kernel_rfl) (HS.old0 hb)) ?_
    refine yq (.pointer (some ⟨g, 0, none⟩)) (by kernel_rfl) (by intro c_ h_; cases h_) (by kernel_rfl) ?_
    refine yq (.pointer (some ⟨g, 0, none⟩)) (by kernel_rfl) (by intro c_ h_; cases h_) (by kernel_rfl) ?_
    refine yq (.slice A L.length c) (by kernel_rfl) (by intro c_ h_; cases h_) (R_load (p := ⟨g, 0, none⟩) (by kernel_rfl) (by kernel_rfl) (by kernel_rfl) (HS.old0 hz0)) ?_
    refine yq (.int .i64 i) (by kernel_rfl) (by intro c_ h_; cases h_) (by kernel_rfl) ?_
    obtain ⟨ad2, rfl⟩ := Rd.isSome_ hr (by rw [ci_len]; omega)
    refine yq (.pointer (some (ad2.add i.toNat))) (by kernel_rfl) (by intro c_ h_; cases h_) (R_indexA1 (k := .i64) (p := ad2) (n := L.length) (c := c) (i := i) (by kernel_rfl) (by kernel_rfl) Try.underlying75 (by kernel_rfl) (by omega) (by omega)) ?_
    refine yq (.int .i32 (rdI L i)) (by kernel_rfl) (by intro c_ h_; cases h_) (R_load (p := ad2.add i.toNat) (by kernel_rfl) (by kernel_rfl) (by kernel_rfl) (HS.old0 (hr.at_ (ci_rd (i := i) (by omega) (by omega))))) ?_
    refine yq (.int .i64 (rdI L i)) (by kernel_rfl) (by intro c_ h_; cases h_) (R_int (by kernel_rfl) (w64 (by omega))) ?_
    refine yy #[.int .i64 (rdI L i)] (by kernel_rfl) (by kernel_rfl) (by kernel_rfl) hY1 ?_
    rintro e WC (⟨rfl, HJ3, HK3⟩ | ⟨rfl, HJ3⟩)
    · refine ⟨_, rfl, ?_⟩
      clear HS
      have HD3 := HK3 HD
      clear HD hb hz0 hr
      have HDc := HD3
      obtain ⟨hb, hz0, hr⟩ := HDc
      have HS : St WC (owns []) WC [] := St.start WC _
      refine yq (.bool false) (by kernel_rfl) (by intro c_ h_; cases h_) (by kernel_rfl) ?_
      refine wpListIn_nil ?_
      refine x_then ?_
      refine wp_cond_false (by kernel_rfl) ?_
      refine wp_skip ?_
      refine x_inb ?_
      refine x_then ?_
      refine wp_region_lit ?_
      refine ql (.int .i64 (i + 1)) (by kernel_rfl) (R_int (by kernel_rfl) (w64 (by omega))) ?_
      refine ql (.int .i64 (i + 1)) (by kernel_rfl) (by kernel_rfl) ?_
      refine wpList_nil ?_
      refine x_then ?_
      have HB := HS.kept.below owns_nil
      rw [← htk] at HJ3
      exact ⟨L.length - (i + 1).toNat, by omega, (fun k_ : Nat => List.getD [.func (.yield l) #[] #[], .pointer (some ⟨b, 0, none⟩), undef, .int .i64 i, .pointer (some ⟨g, 0, none⟩), .int .i64 (L.length : Int), .int .i64 (i + 1), .bool true, .int .i64 i, .func (.yield l) #[] #[], .pointer (some ⟨g, 0, none⟩), .pointer (some ⟨g, 0, none⟩), .pointer (some ⟨g, 0, none⟩), .slice (some ad2) L.length c, .int .i64 i, .pointer (some (ad2.add i.toNat)), .int .i32 (rdI L i), .int .i64 (rdI L i), .bool true, .bool false, .int .i64 (i + 1)] k_ undef), i + 1, congrArg Fr (by kernel_rfl), rfl, by omega, by omega, HD3.below HB, hJ _ _ _ none HJ3 HS.grownBy0 (fun _ h_ => nomatch h_)⟩
    · refine ⟨_, rfl, ?_⟩
      clear HS
      have HS : St WC (owns []) WC [] := St.start WC _
      refine yq (.bool true) (by kernel_rfl) (by intro c_ h_; cases h_) (by kernel_rfl) ?_
      refine wpListIn_nil ?_
      refine x_then ?_
      refine wp_cond_true (by kernel_rfl) ?_
      refine wp_ret ?_
      refine x_inbR ?_
      refine x_thenR ?_
      refine x_thenR ?_
      refine x_inbR ?_
      refine ret_ (.tuple #[]) (by kernel_rfl) ?_
      exact ⟨⟨_, rfl⟩, .inr ⟨L.take i.toNat ++ [rdI L i], ⟨L.drop (i + 1).toNat, by rw [List.append_assoc, List.singleton_append, ← hdc, List.take_append_drop]⟩, HJ3⟩⟩
  · skip
    refine wp_seq ?_
    refine wp_region_lit ?_
    refine ql (.bool false) (by kernel_rfl) (R_nbool (p := i < (L.length : Int)) (by kernel_rfl) (by omega)) ?_
    refine wpList_nil ?_
    refine x_then ?_
    refine wp_seq ?_
    refine wp_cond_false (by kernel_rfl) ?_
    refine wp_exit ?_
    refine x_thenE ?_
    refine x_thenE ?_
    refine x_hit ?_
    refine end_ (.tuple #[]) (by kernel_rfl) ?_
    have hi9 : i.toNat = L.length := by omega
    rw [hi9, List.take_length] at HJ
    exact ⟨⟨_, rfl⟩, .inl ⟨L, rfl, HJ⟩⟩

set_option maxRecDepth 100000 in
set_option maxHeartbeats 1000000 in
theorem sall_stops_nil (b : Nat) (W : World) (hb : DnN b W) (m : Nat) : SeqStopsK Fence.wide m Try.prog 67 #[.pointer (some ⟨b, 0, none⟩)] encI (DnNK b) (fun xs => xs = []) (fun pre => pre <+: []) 0 W := by
  intro l J Jx WA hW hJ hJx hY h0
  have hb : WA.cell? ⟨b, 0, none⟩ = some (.pointer none) := DnN.below hb hW
  refine (callsIn_wide (n := m)).2 ?_
  have HS : St WA (owns []) WA [] := St.start WA _
  refine calls_enter [.func (.yield l) #[] #[], .pointer (some ⟨b, 0, none⟩), undef, undef, undef, undef, undef, undef, undef, undef, undef, undef, undef, undef, undef, undef, undef, undef, undef, undef, undef] Try.func67 rfl (by kernel_rfl) ?_
  refine wp_seq ?_
  refine wp_region_lit ?_
  refine ql (.pointer none) (by kernel_rfl) (R_load (p := ⟨b, 0, none⟩) (by kernel_rfl) (by kernel_rfl) (by kernel_rfl) (HS.old0 hb)) ?_
  refine qc (f := 13) (args := #[.pointer none]) (by kernel_rfl) (R_call #[.pointer none] Try.func13 (by kernel_rfl) (by kernel_rfl) (by kernel_rfl)) ?_
  refine (slen_nil _).mono ?_
  rintro e W1 ⟨rfl, H_⟩
  refine ⟨_, rfl, ?_⟩
  replace HS : St WA (owns []) W1 [] := HS.join (F := []) (G := []) H_
  clear H_
  refine ql (.int .i64 0) (by kernel_rfl) (by kernel_rfl) ?_
  refine wpList_nil ?_
  refine x_then ?_
  refine wp_block ?_
  refine wp_loop_ghost (fun kq a' w' => a' = Fr [.func (.yield l) #[] #[], .pointer (some ⟨b, 0, none⟩), undef, undef, .pointer none, .int .i64 0, .int .i64 0, undef, undef, undef, undef, undef, undef, undef, undef, undef, undef, undef, undef, undef, undef] ∧ kq = 0 ∧ St WA (owns []) w' []) 0 ⟨rfl, rfl, HS⟩ ?_
  clear HS
  rintro kq a' WB ⟨rfl, hk, HS⟩
  refine wp_seq ?_
  refine wp_region_lit ?_
  refine ql (.bool false) (by kernel_rfl) (R_beq (b := decide ((0 : Int) < 0)) (by kernel_rfl) (by decide)) ?_
  refine wpList_nil ?_
  refine x_then ?_
  refine wp_seq ?_
  refine wp_cond_false (by kernel_rfl) ?_
  refine wp_exit ?_
  refine x_thenE ?_
  refine x_thenE ?_
  refine x_hit ?_
  refine end_ (.tuple #[]) (by kernel_rfl) ?_
  exact ⟨⟨_, rfl⟩, .inl ⟨[], rfl, hJ _ _ _ none h0 HS.grownBy0 (fun _ h_ => nomatch h_)⟩⟩

open Go.Shelf
set_option maxRecDepth 100000 in
set_option maxHeartbeats 1000000 in
theorem slist (g c : Nat) (A : Option Addr) (L : List Int) (W : World) (hz0 : W.cell? ⟨g, 0, none⟩ = some (.slice A L.length c)) (hr : Rd W A (ci .i32 L)) (hs : S31 L) (hl : L.length ≤ 100000) : Calls Try.prog 26 #[.pointer (some ⟨g, 0, none⟩)] W fun e W' => ∃ A' c', e = .returned (.slice A' L.length c') ∧ St W (owns []) W' [row A' L.length c' (ci .i64 L) 3 1] := by
  have HS : St W (owns []) W [] := St.start W _
  refine calls_enter [.pointer (some ⟨g, 0, none⟩), undef, undef, undef, undef, undef] Try.func26 rfl (by kernel_rfl) ?_
  refine wp_seq ?_
  refine wp_region_lit ?_
  refine ql (.slice none 0 0) (by kernel_rfl) (by kernel_rfl) ?_
  refine wpList_nil ?_
  refine x_then ?_
  refine wp_seq ?_
  refine wp_region_lit ?_
  refine ql (.pointer (some ⟨g, 0, none⟩)) (by kernel_rfl) (by kernel_rfl) ?_
  refine qc (f := 34) (args := #[.pointer (some ⟨g, 0, none⟩)]) (by kernel_rfl) (R_call #[.pointer (some ⟨g, 0, none⟩)] Try.func34 (by kernel_rfl) (by kernel_rfl) (by kernel_rfl)) ?_
  refine (sall g _).mono ?_
  rintro e W2 ⟨b1, rfl, H_⟩
  refine ⟨_, rfl, ?_⟩
  replace HS : St W (owns []) W2 [blk b1 [.pointer (some ⟨g, 0, none⟩)] 24] := HS.join (F := []) (G := [blk b1 [.pointer (some ⟨g, 0, none⟩)] 24]) H_
  clear H_
  refine qc (f := 61) (args := #[.func (.func 67) #[] #[.pointer (some ⟨b1, 0, none⟩)]]) (by kernel_rfl) (R_call #[.func (.func 67) #[] #[.pointer (some ⟨b1, 0, none⟩)]] Try.func61 (by kernel_rfl) (by kernel_rfl) (by kernel_rfl)) ?_
  have HDT : SpT b1 g c A L _ := ⟨HS.cell (i := 0) (j := 0) rfl rfl, HS.old0 hz0, hr.old0 HS⟩
  refine (colS 67 #[.pointer (some ⟨b1, 0, none⟩)] _ (enters_of Try.func67 (by kernel_rfl) rfl) (sall_stops b1 g c A L _ HDT.hb HDT.h0 HDT.hr hs hl 0) (fun h_ k_ => fun x_ => k_ (h_ x_)) (fun X Y hb_ => SpK.of HDT hb_) (by omega)).mono ?_
  rintro e W3 ⟨A8, c8, xs8, hS8, rfl, H_⟩
  have hS8 : L = xs8 := hS8.symm
  subst hS8
  refine ⟨_, rfl, ?_⟩
  replace HS : St W (owns []) W3 [row A8 L.length c8 (ci .i64 L) 3 1, blk b1 [.pointer (some ⟨g, 0, none⟩)] 24] := HS.join (F := []) (G := [row A8 L.length c8 (ci .i64 L) 3 1]) H_
  clear H_
  refine ql (.slice A8 L.length c8) (by kernel_rfl) (by kernel_rfl) ?_
  refine wpList_nil ?_
  refine x_then ?_
  refine wp_ret ?_
  refine ret_ (.slice A8 L.length c8) (by kernel_rfl) ?_
  replace HS : St W (owns []) W3 [row A8 L.length c8 (ci .i64 L) 3 1] := St.tail (F := [blk b1 [.pointer (some ⟨g, 0, none⟩)] 24]) (HS.perm (perm_ [1, 0] (by kernel_rfl) rfl))
  exact ⟨A8, c8, rfl, HS⟩

set_option maxRecDepth 100000 in
set_option maxHeartbeats 1000000 in
theorem slist_nil (W : World) : Calls Try.prog 26 #[.pointer none] W fun e W' => ∃ A' c', e = .returned (.slice A' 0 c') ∧ St W (owns []) W' [row A' 0 c' (ci .i64 []) 3 1] := by
  have HS : St W (owns []) W [] := St.start W _
  refine calls_enter [.pointer none, undef, undef, undef, undef, undef] Try.func26 rfl (by kernel_rfl) ?_
  refine wp_seq ?_
  refine wp_region_lit ?_
  refine ql (.slice none 0 0) (by kernel_rfl) (by kernel_rfl) ?_
  refine wpList_nil ?_
  refine x_then ?_
  refine wp_seq ?_
  refine wp_region_lit ?_
  refine ql (.pointer none) (by kernel_rfl) (by kernel_rfl) ?_
  refine qc (f := 34) (args := #[.pointer none]) (by kernel_rfl) (R_call #[.pointer none] Try.func34 (by kernel_rfl) (by kernel_rfl) (by kernel_rfl)) ?_
  refine (sall_nil _).mono ?_
  rintro e W2 ⟨b1, rfl, H_⟩
  refine ⟨_, rfl, ?_⟩
  replace HS : St W (owns []) W2 [blk b1 [.pointer none] 24] := HS.join (F := []) (G := [blk b1 [.pointer none] 24]) H_
  clear H_
  refine qc (f := 61) (args := #[.func (.func 67) #[] #[.pointer (some ⟨b1, 0, none⟩)]]) (by kernel_rfl) (R_call #[.func (.func 67) #[] #[.pointer (some ⟨b1, 0, none⟩)]] Try.func61 (by kernel_rfl) (by kernel_rfl) (by kernel_rfl)) ?_
  have HDT : DnN b1 _ := HS.cell (i := 0) (j := 0) rfl rfl
  refine (colS 67 #[.pointer (some ⟨b1, 0, none⟩)] _ (enters_of Try.func67 (by kernel_rfl) rfl) (sall_stops_nil b1 _ HDT 0) (fun h_ k_ => fun x_ => k_ (h_ x_)) (fun X Y hb_ => DnNK.of HDT hb_) (by omega)).mono ?_
  rintro e W3 ⟨A8, c8, xs8, hS8, rfl, H_⟩
  have hS8 : [] = xs8 := hS8.symm
  subst hS8
  refine ⟨_, rfl, ?_⟩
  replace HS : St W (owns []) W3 [row A8 0 c8 (ci .i64 ([])) 3 1, blk b1 [.pointer none] 24] := HS.join (F := []) (G := [row A8 0 c8 (ci .i64 ([])) 3 1]) H_
  clear H_
  refine ql (.slice A8 0 c8) (by kernel_rfl) (by kernel_rfl) ?_
  refine wpList_nil ?_
  refine x_then ?_
  refine wp_ret ?_
  refine ret_ (.slice A8 0 c8) (by kernel_rfl) ?_
  replace HS : St W (owns []) W3 [row A8 0 c8 (ci .i64 ([])) 3 1] := St.tail (F := [blk b1 [.pointer none] 24]) (HS.perm (perm_ [1, 0] (by kernel_rfl) rfl))
  exact ⟨A8, c8, rfl, HS⟩

set_option maxRecDepth 100000 in
set_option maxHeartbeats 1000000 in
theorem sof (Al : Option Addr) (cl : Nat) (l : List Int) (W : World) (hra : Rd W Al (ci .i64 l)) (hl : l.length ≤ 1000) : Calls Try.prog 11 #[.slice Al l.length cl] W fun e W' => ∃ g A' c', e = .returned (.pointer (some ⟨g, 0, none⟩)) ∧ St W (owns []) W' [blk g [.slice A' ((ofL l).length) c'] 77, row A' ((ofL l).length) c' (ci .i32 (ofL l)) 21 1] := by
  have HS : St W (owns []) W [] := St.start W _
  refine calls_enter [.slice Al l.length cl, undef, undef, undef, undef, undef, undef, undef, undef, undef, undef, undef, undef, undef, undef, undef, undef, undef, undef] Try.func11 rfl (by kernel_rfl) ?_
  refine wp_seq ?_
  refine wp_region_lit ?_
  refine ql (.pointer none) (by kernel_rfl) (by kernel_rfl) ?_
  refine wpList_nil ?_
  refine x_then ?_
  refine wp_seq ?_
  refine wp_region_lit ?_
  refine ql (.agg #[.slice none 0 0]) (by kernel_rfl) (by kernel_rfl) ?_
  refine kb HS [.slice none 0 0] 77 (fun g => .pointer (some ⟨g, 0, none⟩)) (by kernel_rfl) (by kernel_rfl) ?_
  intro g1 W2 H_
  replace HS : St W (owns []) W2 [blk g1 [.slice none 0 0] 77] := H_
  clear H_
  refine ql (.pointer (some ⟨g1, 0, none⟩)) (by kernel_rfl) (by kernel_rfl) ?_
  refine wpList_nil ?_
  refine x_then ?_
  refine wp_seq ?_
  refine wp_seq ?_
  refine wp_region_lit ?_
  refine ql (.slice Al l.length cl) (by kernel_rfl) (by kernel_rfl) ?_
  refine ql (.int .i64 (l.length : Int)) (by kernel_rfl) (by kernel_rfl) ?_
  refine ql (.int .i64 0) (by kernel_rfl) (by kernel_rfl) ?_
  refine wpList_nil ?_
  refine x_then ?_
  refine wp_block ?_
  replace HS : St W (owns []) W2 [row none 0 0 (ci .i32 ([])) 21 1, blk g1 [.slice none 0 0] 77] := (HS.nilRow 21 1).cast_ (by kernel_rfl)
  replace HS : St W (owns []) W2 [blk g1 [.slice none 0 0] 77, row none 0 0 (ci .i32 ([])) 21 1] := HS.perm (perm_ [1, 0] (by kernel_rfl) rfl)
  refine wp_loop_ghost (fun kq a' w' => ∃ (J3 : Nat → Value) (k : Int) (L : List Int) (A : Option Addr) (c : Nat) , a' = Fr [.slice Al l.length cl, undef, .pointer none, .pointer (some ⟨g1, 0, none⟩), undef, (J3 5), .agg #[.slice none 0 0], .pointer (some ⟨g1, 0, none⟩), .slice Al l.length cl, .int .i64 (l.length : Int), .int .i64 k, (J3 11), (J3 12), (J3 13), (J3 14), (J3 15), (J3 16), (J3 17), undef] ∧ kq = (l.length - (k).toNat) ∧ (0 ≤ k) ∧ (k ≤ l.length) ∧ (OfP l L k) ∧ St W (owns []) w' [blk g1 [.slice A L.length c] 77, row A L.length c (ci .i32 L) 21 1]) (l.length - ((0 : Int)).toNat) ⟨(fun k_ : Nat => List.getD [.slice Al l.length cl, undef, .pointer none, .pointer (some ⟨g1, 0, none⟩), undef, undef, .agg #[.slice none 0 0], .pointer (some ⟨g1, 0, none⟩), .slice Al l.length cl, .int .i64 (l.length : Int), .int .i64 0, undef, undef, undef, undef, undef, undef, undef, undef] k_ undef), (0 : Int), [], none, 0, congrArg Fr (by kernel_rfl), rfl, by omega, by omega, ofP_start l, HS⟩ ?_
  clear HS
  intro kq4 a' W5 hrel
  obtain ⟨J3, k, L, A, c, rfl, hk, k0, k1, hP, HS⟩ := hrel
  have hol := ofP_len hP
  refine wp_seq ?_
  refine wp_region_lit ?_
  by_cases hc6 : k < (l.length : Int)
  · skip
    refine ql (.bool true) (by kernel_rfl) (R_bool (p := k < (l.length : Int)) (by kernel_rfl) (hc6)) ?_
    refine wpList_nil ?_
    refine x_then ?_
    refine wp_seq ?_
    refine wp_cond_true (by kernel_rfl) ?_
    refine wp_skip ?_
    refine x_then ?_
    refine wp_seq ?_
    refine wp_block ?_
    refine wp_seq ?_
    refine wp_region_lit ?_
    obtain ⟨ad7, rfl⟩ := Rd.isSome_ hra (by rw [ci_len]; omega)
    refine ql (.pointer (some (ad7.add k.toNat))) (by kernel_rfl) (R_indexA1 (k := .i64) (p := ad7) (n := l.length) (c := cl) (i := k) (by kernel_rfl) (by kernel_rfl) Try.underlying22 (by kernel_rfl) (by omega) (by omega)) ?_
    refine ql (.int .i64 (rdI l k)) (by kernel_rfl) (R_load (p := ad7.add k.toNat) (by kernel_rfl) (by kernel_rfl) (by kernel_rfl) (HS.old0 (hra.at_ (ci_rd (i := k) (by omega) (by omega))))) ?_
    refine ql (.int .i64 (rdI l k)) (by kernel_rfl) (by kernel_rfl) ?_
    refine wpList_nil ?_
    refine x_then ?_
    refine wp_region_lit ?_
    refine ql (.pointer (some ⟨g1, 0, none⟩)) (by kernel_rfl) (by kernel_rfl) ?_
    refine ql (.int .i64 (rdI l k)) (by kernel_rfl) (by kernel_rfl) ?_
    refine qc (f := 32) (args := #[.pointer (some ⟨g1, 0, none⟩), .int .i64 (rdI l k)]) (by kernel_rfl) (R_call #[.pointer (some ⟨g1, 0, none⟩), .int .i64 (rdI l k)] Try.func32 (by kernel_rfl) (by kernel_rfl) (by kernel_rfl)) ?_
    refine (sadd g1 c A L (rdI l k) _ _ (St.focus (F := [blk g1 [.slice A L.length c] 77, row A L.length c (ci .i32 L) 21 1]) HS) (ofP_s31 hP) (by omega)).mono ?_
    rintro e W11 ⟨A8, c9, rfl, H_⟩
    refine ⟨_, rfl, ?_⟩
    replace HS : St W (owns []) W11 [blk g1 [.slice A8 ((addL 2147483648 L (rdI l k)).length) c9] 77, row A8 ((addL 2147483648 L (rdI l k)).length) c9 (ci .i32 (addL 2147483648 L (rdI l k))) 21 1] := HS.join (F := [blk g1 [.slice A L.length c] 77, row A L.length c (ci .i32 L) 21 1]) (G := [blk g1 [.slice A8 ((addL 2147483648 L (rdI l k)).length) c9] 77, row A8 ((addL 2147483648 L (rdI l k)).length) c9 (ci .i32 (addL 2147483648 L (rdI l k))) 21 1]) H_
    clear H_
    refine wpList_nil ?_
    refine x_inb ?_
    refine x_then ?_
    refine wp_region_lit ?_
    refine ql (.int .i64 (k + 1)) (by kernel_rfl) (R_int (by kernel_rfl) (w64 (by omega))) ?_
    refine ql (.int .i64 (k + 1)) (by kernel_rfl) (by kernel_rfl) ?_
    refine wpList_nil ?_
    refine x_then ?_
    exact ⟨l.length - (k + 1).toNat, by omega, (fun k_ : Nat => List.getD [.slice (some ad7) l.length cl, undef, .pointer none, .pointer (some ⟨g1, 0, none⟩), undef, .int .i64 (rdI l k), .agg #[.slice none 0 0], .pointer (some ⟨g1, 0, none⟩), .slice (some ad7) l.length cl, .int .i64 (l.length : Int), .int .i64 (k + 1), .bool true, .pointer (some (ad7.add k.toNat)), .int .i64 (rdI l k), .pointer (some ⟨g1, 0, none⟩), .int .i64 (rdI l k), .bool (addB 2147483648 L (rdI l k)), .int .i64 (k + 1), undef] k_ undef), k + 1, (addL 2147483648 L (rdI l k)), A8, c9, congrArg Fr (by kernel_rfl), rfl, by omega, by omega, ofP_step hP k0 (by omega), HS⟩
  · skip
    refine ql (.bool false) (by kernel_rfl) (R_nbool (p := k < (l.length : Int)) (by kernel_rfl) (hc6)) ?_
    refine wpList_nil ?_
    refine x_then ?_
    refine wp_seq ?_
    refine wp_cond_false (by kernel_rfl) ?_
    refine wp_exit ?_
    refine x_thenE ?_
    refine x_thenE ?_
    refine x_hit ?_
    refine x_then ?_
    refine wp_seq ?_
    refine wp_region_lit ?_
    refine ql (.pointer (some ⟨g1, 0, none⟩)) (by kernel_rfl) (by kernel_rfl) ?_
    refine ql (.pointer (some ⟨g1, 0, none⟩)) (by kernel_rfl) (by kernel_rfl) ?_
    refine wpList_nil ?_
    refine x_then ?_
    refine wp_ret ?_
    refine ret_ (.pointer (some ⟨g1, 0, none⟩)) (by kernel_rfl) ?_
    have hq := ofP_end hP (by omega)
    rw [← hq]
    exact ⟨_, _, _, rfl, HS⟩

set_option maxRecDepth 100000 in
set_option maxHeartbeats 1000000 in
theorem smeet_nl (h : Nat) (W : World) : Calls Try.prog 16 #[.pointer none, .pointer (some ⟨h, 0, none⟩)] W fun e W' => e = .returned (.slice none 0 0) ∧ St W (owns []) W' [] := by
  have HS : St W (owns []) W [] := St.start W _
  refine calls_enterM [.pointer none, .pointer (some ⟨h, 0, none⟩), undef, undef, undef, undef, undef, undef, undef, undef, undef, undef, undef, undef, undef, undef, undef, undef] Try.func16 rfl (by kernel_rfl) ?_
  refine wp_seq ?_
  refine wp_region_lit ?_
  refine kb HS [.pointer (some ⟨h, 0, none⟩)] 24 (fun g => .pointer (some ⟨g, 0, none⟩)) (by kernel_rfl) (by kernel_rfl) ?_
  intro g1 W2 H_
  replace HS : St W (owns []) W2 [blk g1 [.pointer (some ⟨h, 0, none⟩)] 24] := H_
  clear H_
  refine ql (.slice none 0 0) (by kernel_rfl) (by kernel_rfl) ?_
  refine wpList_nil ?_
  refine x_then ?_
  refine wp_seq ?_
  refine wp_region_lit ?_
  refine kb HS [.slice none 0 0] 22 (fun g => .pointer (some ⟨g, 0, none⟩)) (by kernel_rfl) (by kernel_rfl) ?_
  intro g3 W4 H_
  replace HS : St W (owns []) W4 [blk g3 [.slice none 0 0] 22, blk g1 [.pointer (some ⟨h, 0, none⟩)] 24] := H_
  clear H_
  refine wpList_nil ?_
  refine x_then ?_
  refine wp_seq ?_
  refine wp_seq ?_
  refine wp_region_lit ?_
  refine ql (.pointer none) (by kernel_rfl) (by kernel_rfl) ?_
  refine qc (f := 34) (args := #[.pointer none]) (by kernel_rfl) (R_call #[.pointer none] Try.func34 (by kernel_rfl) (by kernel_rfl) (by kernel_rfl)) ?_
  refine (sall_nil _).mono ?_
  rintro e W6 ⟨b5, rfl, H_⟩
  refine ⟨_, rfl, ?_⟩
  replace HS : St W (owns []) W6 [blk b5 [.pointer none] 24, blk g3 [.slice none 0 0] 22, blk g1 [.pointer (some ⟨h, 0, none⟩)] 24] := HS.join (F := []) (G := [blk b5 [.pointer none] 24]) H_
  clear H_
  refine wpList_nil ?_
  refine x_then ?_
  refine wp_block ?_
  have HDT : DnN b5 _ := HS.cell (i := 0) (j := 0) rfl rfl
  have HSb := HS
  refine rangeF (gf := 67) (lb := #[.pointer (some ⟨b5, 0, none⟩)]) (m := 0) (by kernel_rfl) (enters_of Try.func67 (by kernel_rfl) rfl) (sall_stops_nil b5 _ HDT 0) (fun h_ k_ => fun x_ => k_ (h_ x_)) (fun X l_ o_ o2_ hl_ _ _ _ => DnNK.of HDT (below_put hl_))
    (fun pre w' => St W (owns []) w' [blk b5 [.pointer none] 24, blk g3 [.slice none 0 0] 22, blk g1 [.pointer (some ⟨h, 0, none⟩)] 24])
    (fun c pre w' => False)
    (fun s_ A_ B_ r_ h_ hg_ hr_ => by exact St.grown h_ (cel_cons blk_cel (cel_cons blk_cel (cel_cons blk_cel cel_nil))) HSb.le hg_ hr_)
    (fun _ _ _ _ _ h_ _ _ => h_)
    (by exact HS)
    (fun x => [.pointer none, .pointer (some ⟨h, 0, none⟩), undef, .pointer (some ⟨g1, 0, none⟩), .slice none 0 0, .pointer (some ⟨g3, 0, none⟩), .int .i64 x, .pointer none, .func (.func 67) #[] #[.pointer (some ⟨b5, 0, none⟩)], .int .i64 x, undef, undef, undef, undef, undef, undef, undef, undef]) ?_ ?_ ?_ ?_
  · intro l x W7 K_ hK_
    refine wp_region_litR (by kernel_rfl) (fun ⟨_, _, h_⟩ => (h_ : False)) ?_
    refine ql (.int .i64 x) (by kernel_rfl) (by kernel_rfl) ?_
    refine wpList_nil ?_
    refine x_then ?_
    exact kk_ (congrArg Fr (by kernel_rfl)) hK_
  · intro l pre x W7 hI_ hlt
    replace HS := hI_
    have HO := HS
    replace HS := HO.root
    exact absurd hlt (by simp)
  · intro D xs W7 hD hS hI_ hdf
    replace HS := hI_
    replace HS := HS.addD (cel_cons blk_cel (cel_cons blk_cel (cel_cons blk_cel cel_nil))) (Nat.le_trans HSb.le hD) hdf
    refine x_inb ?_
    refine x_then ?_
    refine wp_seq ?_
    refine wp_region_lit ?_
    refine ql (.slice none 0 0) (by kernel_rfl) (R_load (p := ⟨g3, 0, none⟩) (by kernel_rfl) (by kernel_rfl) (by kernel_rfl) (HS.cell (i := 2) (j := 0) rfl rfl)) ?_
    refine ql (.slice none 0 0) (by kernel_rfl) (by kernel_rfl) ?_
    refine wpList_nil ?_
    refine x_then ?_
    refine wp_ret ?_
    refine retD_ HS ?_
    clear HS
    intro W8 HS
    refine ⟨.slice none 0 0, by kernel_rfl, ?_⟩
    replace HS := HS.drop1
    replace HS := HS.drop1
    replace HS := HS.drop1
    exact ⟨rfl, HS⟩
  · intro D c pre W7 hD hSp hIx_ hdf
    exact hIx_.elim

open Go.Shelf
set_option maxRecDepth 100000 in
set_option maxHeartbeats 1000000 in
theorem sawake (W : World) : Calls Try.prog 10 #[] W fun e W' => e = .returned (.bool true) ∧ St W (owns []) W' [] := by
  have HS : St W (owns []) W [] := St.start W _
  refine calls_enter [undef, undef, undef, undef, undef, undef, undef, undef, undef, undef, undef, undef, undef, undef, undef, undef, undef, undef, undef, undef, undef, undef, undef, undef, undef, undef, undef] Try.func10 rfl (by kernel_rfl) ?_
  refine wp_seq ?_
  refine wp_region_lit ?_
  refine ql (.bool false) (by kernel_rfl) (by kernel_rfl) ?_
  refine wpList_nil ?_
  refine x_then ?_
  refine wp_seq ?_
  refine wp_region_lit ?_
  refine kl HS 4 [.int .i64 5, .int .i64 1, .int .i64 5, .int .i64 (-2)] 3 1 (by kernel_rfl) (by kernel_rfl) rfl (by decide) ?_
  intro g1 W2 H_
  replace HS : St W (owns []) W2 [row (some ⟨g1, 0, none⟩) 4 4 (ci .i64 ([5, 1, 5, -2])) 3 1] := H_.cast_ (by kernel_rfl)
  clear H_
  refine qc (f := 11) (args := #[.slice (some ⟨g1, 0, none⟩) 4 4]) (by kernel_rfl) (R_call #[.slice (some ⟨g1, 0, none⟩) 4 4] Try.func11 (by kernel_rfl) (by kernel_rfl) (by kernel_rfl)) ?_
  have hof : ofL [5, 1, 5, -2] = [1, 5] := by decide
  refine (sof (some ⟨g1, 0, none⟩) 4 [5, 1, 5, -2] _ (Rd.row HS (i := 0) rfl) (by first | omega | decide)).mono ?_
  rintro e W6 ⟨g3, A4, c5, rfl, H_⟩
  rw [hof] at H_
  refine ⟨_, rfl, ?_⟩
  replace HS : St W (owns []) W6 [blk g3 [.slice A4 (([1, 5]).length) c5] 77, row A4 (([1, 5]).length) c5 (ci .i32 ([1, 5])) 21 1, row (some ⟨g1, 0, none⟩) 4 4 (ci .i64 ([5, 1, 5, -2])) 3 1] := HS.join (F := []) (G := [blk g3 [.slice A4 (([1, 5]).length) c5] 77, row A4 (([1, 5]).length) c5 (ci .i32 ([1, 5])) 21 1]) H_
  clear H_
  refine ql (.pointer (some ⟨g3, 0, none⟩)) (by kernel_rfl) (by kernel_rfl) ?_
  refine wpList_nil ?_
  refine x_then ?_
  refine wp_seq ?_
  refine wp_region_lit ?_
  refine ql (.pointer (some ⟨g3, 0, none⟩)) (by kernel_rfl) (by kernel_rfl) ?_
  refine qc (f := 12) (args := #[.pointer (some ⟨g3, 0, none⟩), .int .i64 1]) (by kernel_rfl) (R_call #[.pointer (some ⟨g3, 0, none⟩), .int .i64 1] Try.func12 (by kernel_rfl) (by kernel_rfl) (by kernel_rfl)) ?_
  refine (sat_in g3 c5 A4 ([1, 5]) 1 _ (HS.cell (i := 0) (j := 0) rfl rfl) (Rd.row HS (i := 1) rfl) (⟨by decide, by decide⟩ : S31 [1, 5]) (by decide) (by decide) (by decide)).mono ?_
  rintro e W7 ⟨rfl, H_⟩
  rw [show rdI [1, 5] 1 = 5 by kernel_rfl]
  refine ⟨_, rfl, ?_⟩
  replace HS : St W (owns []) W7 [blk g3 [.slice A4 (([1, 5]).length) c5] 77, row A4 (([1, 5]).length) c5 (ci .i32 ([1, 5])) 21 1, row (some ⟨g1, 0, none⟩) 4 4 (ci .i64 ([5, 1, 5, -2])) 3 1] := HS.join (F := []) (G := []) H_
  clear H_
  refine ql (.tuple #[.int .i64 5, .bool true]) (by kernel_rfl) (by kernel_rfl) ?_
  refine ql (.int .i64 5) (by kernel_rfl) (by kernel_rfl) ?_
  refine ql (.bool true) (by kernel_rfl) (by kernel_rfl) ?_
  refine ql (.int .i64 5) (by kernel_rfl) (by kernel_rfl) ?_
  refine ql (.bool true) (by kernel_rfl) (by kernel_rfl) ?_
  refine wpList_nil ?_
  refine x_then ?_
  refine wp_seq ?_
  refine wp_region_lit ?_
  refine ql (.pointer (some ⟨g3, 0, none⟩)) (by kernel_rfl) (by kernel_rfl) ?_
  refine qc (f := 26) (args := #[.pointer (some ⟨g3, 0, none⟩)]) (by kernel_rfl) (R_call #[.pointer (some ⟨g3, 0, none⟩)] Try.func26 (by kernel_rfl) (by kernel_rfl) (by kernel_rfl)) ?_
  refine (slist g3 c5 A4 ([1, 5]) _ (HS.cell (i := 0) (j := 0) rfl rfl) (Rd.row HS (i := 1) rfl) (⟨by decide, by decide⟩ : S31 [1, 5]) (by decide)).mono ?_
  rintro e W10 ⟨A8, c9, rfl, H_⟩
  refine ⟨_, rfl, ?_⟩
  replace HS : St W (owns []) W10 [row A8 (([1, 5]).length) c9 (ci .i64 ([1, 5])) 3 1, blk g3 [.slice A4 (([1, 5]).length) c5] 77, row A4 (([1, 5]).length) c5 (ci .i32 ([1, 5])) 21 1, row (some ⟨g1, 0, none⟩) 4 4 (ci .i64 ([5, 1, 5, -2])) 3 1] := HS.join (F := []) (G := [row A8 (([1, 5]).length) c9 (ci .i64 ([1, 5])) 3 1]) H_
  clear H_
  refine kl HS 2 [.int .i64 1, .int .i64 5] 3 1 (by kernel_rfl) (by kernel_rfl) rfl (by decide) ?_
  intro g11 W12 H_
  replace HS : St W (owns []) W12 [row (some ⟨g11, 0, none⟩) 2 2 (ci .i64 ([1, 5])) 3 1, row A8 (([1, 5]).length) c9 (ci .i64 ([1, 5])) 3 1, blk g3 [.slice A4 (([1, 5]).length) c5] 77, row A4 (([1, 5]).length) c5 (ci .i32 ([1, 5])) 21 1, row (some ⟨g1, 0, none⟩) 4 4 (ci .i64 ([5, 1, 5, -2])) 3 1] := H_.cast_ (by kernel_rfl)
  clear H_
  refine qc (f := 25) (args := #[.slice A8 (([1, 5]).length) c9, .slice (some ⟨g11, 0, none⟩) 2 2]) (by kernel_rfl) (R_call #[.slice A8 (([1, 5]).length) c9, .slice (some ⟨g11, 0, none⟩) 2 2] Try.func25 (by kernel_rfl) (by kernel_rfl) (by kernel_rfl)) ?_
  refine (r1same A8 (some ⟨g11, 0, none⟩) c9 2 ([1, 5]) ([1, 5]) _ (Rd.row HS (i := 1) rfl) (by first | omega | decide) (Rd.row HS (i := 0) rfl) (by first | omega | decide)).mono ?_
  rintro e W13 ⟨rfl, H_⟩
  rw [decide_eq_true rfl]
  refine ⟨_, rfl, ?_⟩
  replace HS : St W (owns []) W13 [row (some ⟨g11, 0, none⟩) 2 2 (ci .i64 ([1, 5])) 3 1, row A8 (([1, 5]).length) c9 (ci .i64 ([1, 5])) 3 1, blk g3 [.slice A4 (([1, 5]).length) c5] 77, row A4 (([1, 5]).length) c5 (ci .i32 ([1, 5])) 21 1, row (some ⟨g1, 0, none⟩) 4 4 (ci .i64 ([5, 1, 5, -2])) 3 1] := HS.join (F := []) (G := []) H_
  clear H_
  refine ql (.bool true) (by kernel_rfl) (by kernel_rfl) ?_
  refine ql (.pointer (some ⟨g3, 0, none⟩)) (by kernel_rfl) (by kernel_rfl) ?_
  refine qc (f := 14) (args := #[.pointer (some ⟨g3, 0, none⟩), .int .i64 5]) (by kernel_rfl) (R_call #[.pointer (some ⟨g3, 0, none⟩), .int .i64 5] Try.func14 (by kernel_rfl) (by kernel_rfl) (by kernel_rfl)) ?_
  refine (srank g3 c5 A4 ([1, 5]) 5 _ (HS.cell (i := 2) (j := 0) rfl rfl) (Rd.row HS (i := 3) rfl) (⟨by decide, by decide⟩ : S31 [1, 5]) (by decide)).mono ?_
  rintro e W14 ⟨rfl, H_⟩
  rw [show rk [1, 5] 5 = 1 by decide]
  refine ⟨_, rfl, ?_⟩
  replace HS : St W (owns []) W14 [row (some ⟨g11, 0, none⟩) 2 2 (ci .i64 ([1, 5])) 3 1, row A8 (([1, 5]).length) c9 (ci .i64 ([1, 5])) 3 1, blk g3 [.slice A4 (([1, 5]).length) c5] 77, row A4 (([1, 5]).length) c5 (ci .i32 ([1, 5])) 21 1, row (some ⟨g1, 0, none⟩) 4 4 (ci .i64 ([5, 1, 5, -2])) 3 1] := HS.join (F := []) (G := []) H_
  clear H_
  refine ql (.bool true) (by kernel_rfl) (R_beq (b := ((1 : Int) == 1)) (by kernel_rfl) (by decide)) ?_
  refine ql (.bool true) (by kernel_rfl) (by kernel_rfl) ?_
  refine ql (.bool true) (by kernel_rfl) (by kernel_rfl) ?_
  refine ql (.int .i64 5) (by kernel_rfl) (by kernel_rfl) ?_
  refine ql (.bool true) (by kernel_rfl) (R_beq (b := ((5 : Int) == 5)) (by kernel_rfl) (by decide)) ?_
  refine ql (.bool true) (by kernel_rfl) (by kernel_rfl) ?_
  refine ql (.bool true) (by kernel_rfl) (by kernel_rfl) ?_
  refine ql (.bool true) (by kernel_rfl) (by kernel_rfl) ?_
  refine ql (.bool true) (by kernel_rfl) (by kernel_rfl) ?_
  refine ql (.bool true) (by kernel_rfl) (by kernel_rfl) ?_
  refine wpList_nil ?_
  refine x_then ?_
  refine wp_ret ?_
  refine ret_ (.bool true) (by kernel_rfl) ?_
  replace HS := HS.drop1
  replace HS := HS.drop1
  replace HS := HS.drop1
  replace HS := HS.drop1
  replace HS := HS.drop1
  exact ⟨rfl, HS⟩

open Go.Shelf
set_option maxRecDepth 100000 in
set_option maxHeartbeats 1000000 in
theorem lSparseNone (i : Int) (a : List Int) (Aa : Option Addr) (ca : Nat) (W : World) (hra : Rd W Aa (ci .i64 a)) : Calls Try.prog 6 #[.int .i64 i, .slice Aa a.length ca] W fun e W' => e = .returned (.bool true) ∧ St W (owns []) W' [] := by
  have HS : St W (owns []) W [] := St.start W _
  refine calls_enterM ((.int .i64 i) :: (.slice Aa a.length ca) :: undef :: undef :: undef :: undef :: undef :: undef :: undef :: undef :: undef :: undef :: undef :: undef :: undef :: undef :: undef :: undef :: undef :: undef :: undef :: undef :: undef :: undef :: undef :: undef :: undef :: undef :: undef :: undef :: undef :: undef :: undef :: undef :: undef :: undef :: undef :: undef :: undef :: undef :: undef :: undef :: undef :: undef :: undef :: undef :: undef :: undef :: undef :: undef :: undef :: undef :: undef :: undef :: undef :: undef :: undef :: undef :: undef :: undef :: undef :: undef :: undef :: undef :: undef :: undef :: undef :: undef :: undef :: undef :: undef :: undef :: undef :: undef :: undef :: undef :: undef :: undef :: undef :: undef :: undef :: undef :: undef :: undef :: undef :: undef :: undef :: undef :: undef :: undef :: undef :: undef :: undef :: undef :: []) Try.func6 rfl (by kernel_rfl) ?_
  refine wp_seq ?_
  refine wp_region_lit ?_
  refine kb HS [.bool false] 4 (fun g => .pointer (some ⟨g, 0, none⟩)) (by kernel_rfl) (by kernel_rfl) ?_
  intro g1 W2 H_
  replace HS : St W (owns []) W2 [blk g1 [.bool false] 4] := H_
  clear H_
  refine wpList_nil ?_
  refine x_then ?_
  refine wp_seq ?_
  refine wp_seq ?_
  refine wp_region_lit ?_
  refine ql (.slice Aa a.length ca) (by kernel_rfl) (by kernel_rfl) ?_
  refine ql (.int .i64 (a.length : Int)) (by kernel_rfl) (by kernel_rfl) ?_
  by_cases hc3 : (a.length : Int) > (60 : Int)
  · skip
    refine ql (.bool true) (by kernel_rfl) (R_bool (p := (a.length : Int) > (60 : Int)) (by kernel_rfl) (hc3)) ?_
    refine wpList_nil ?_
    refine x_then ?_
    refine wp_cond_true (by kernel_rfl) ?_
    refine wp_seq ?_
    refine wp_region_lit ?_
    refine qc (f := 10) (args := #[]) (by kernel_rfl) (R_call #[] Try.func10 (by kernel_rfl) (by kernel_rfl) (by kernel_rfl)) ?_
    refine (sawake _).mono ?_
    rintro e W4 ⟨rfl, H_⟩
    refine ⟨_, rfl, ?_⟩
    replace HS : St W (owns []) W4 [blk g1 [.bool false] 4] := HS.join (F := []) (G := []) H_
    clear H_
    refine ks (v := .bool true) HS 0 rfl (0) [.bool true] (by kernel_rfl) (by kernel_rfl) (by kernel_rfl) (by kernel_rfl) (by kernel_rfl) (one_ (by kernel_rfl)) (Nat.le_of_ble_eq_true rfl) rfl ?_
    intro W5 H_
    replace HS : St W (owns []) W5 [blk g1 [.bool true] 4] := H_
    clear H_
    refine wpList_nil ?_
    refine x_then ?_
    refine wp_ret ?_
    refine x_thenR ?_
    refine retM_ (.bool true) (res1 rfl (oneRes_one (p := ⟨g1, 0, none⟩) (by kernel_rfl) (by kernel_rfl) (by kernel_rfl) (HS.cell (i := 0) (j := 0) rfl rfl))) ?_
    replace HS := HS.drop1
    exact ⟨rfl, HS⟩
  · skip
    refine ql (.bool false) (by kernel_rfl) (R_nbool (p := (a.length : Int) > (60 : Int)) (by kernel_rfl) (hc3)) ?_
    refine wpList_nil ?_
    refine x_then ?_
    refine wp_cond_false (by kernel_rfl) ?_
    refine wp_skip ?_
    refine x_then ?_
    refine wp_seq ?_
    refine wp_region_lit ?_
    refine ql (.pointer none) (by kernel_rfl) (by kernel_rfl) ?_
    refine wpList_nil ?_
    refine x_then ?_
    refine wp_seq ?_
    refine wp_region_lit ?_
    refine ql (.slice Aa a.length ca) (by kernel_rfl) (by kernel_rfl) ?_
    refine qc (f := 11) (args := #[.slice Aa a.length ca]) (by kernel_rfl) (R_call #[.slice Aa a.length ca] Try.func11 (by kernel_rfl) (by kernel_rfl) (by kernel_rfl)) ?_
    have hlog6 := ofL_len a
    refine (sof Aa ca a _ (hra.old0 HS) (by first | omega | decide)).mono ?_
    rintro e W9 ⟨g6, A7, c8, rfl, H_⟩
    refine ⟨_, rfl, ?_⟩
    replace HS : St W (owns []) W9 [blk g6 [.slice A7 ((ofL a).length) c8] 77, row A7 ((ofL a).length) c8 (ci .i32 (ofL a)) 21 1, blk g1 [.bool false] 4] := HS.join (F := []) (G := [blk g6 [.slice A7 ((ofL a).length) c8] 77, row A7 ((ofL a).length) c8 (ci .i32 (ofL a)) 21 1]) H_
    clear H_
    refine kb HS [.pointer none] 24 (fun g => .pointer (some ⟨g, 0, none⟩)) (by kernel_rfl) (by kernel_rfl) ?_
    intro g10 W11 H_
    replace HS : St W (owns []) W11 [blk g10 [.pointer none] 24, blk g6 [.slice A7 ((ofL a).length) c8] 77, row A7 ((ofL a).length) c8 (ci .i32 (ofL a)) 21 1, blk g1 [.bool false] 4] := H_
    clear H_
    refine ks (v := .pointer (some ⟨g6, 0, none⟩)) HS 0 rfl (0) [.pointer (some ⟨g6, 0, none⟩)] (by kernel_rfl) (by kernel_rfl) (by kernel_rfl) (by kernel_rfl) (by kernel_rfl) (one_ (by kernel_rfl)) (Nat.le_of_ble_eq_true rfl) rfl ?_
    intro W12 H_
    replace HS : St W (owns []) W12 [blk g10 [.pointer (some ⟨g6, 0, none⟩)] 24, blk g6 [.slice A7 ((ofL a).length) c8] 77, row A7 ((ofL a).length) c8 (ci .i32 (ofL a)) 21 1, blk g1 [.bool false] 4] := H_
    clear H_
    refine wpList_nil ?_
    refine x_then ?_
    refine wp_seq ?_
    refine wp_region_lit ?_
    refine ql (.pointer none) (by kernel_rfl) (by kernel_rfl) ?_
    refine ql (.int .i64 i) (by kernel_rfl) (by kernel_rfl) ?_
    refine qc (f := 12) (args := #[.pointer none, .int .i64 i]) (by kernel_rfl) (R_call #[.pointer none, .int .i64 i] Try.func12 (by kernel_rfl) (by kernel_rfl) (by kernel_rfl)) ?_
    refine (sat_nil i _).mono ?_
    rintro e W13 ⟨rfl, H_⟩
    refine ⟨_, rfl, ?_⟩
    replace HS : St W (owns []) W13 [blk g10 [.pointer (some ⟨g6, 0, none⟩)] 24, blk g6 [.slice A7 ((ofL a).length) c8] 77, row A7 ((ofL a).length) c8 (ci .i32 (ofL a)) 21 1, blk g1 [.bool false] 4] := HS.join (F := []) (G := []) H_
    clear H_
    refine ql (.tuple #[.int .i64 0, .bool false]) (by kernel_rfl) (by kernel_rfl) ?_
    refine ql (.int .i64 0) (by kernel_rfl) (by kernel_rfl) ?_
    refine ql (.bool false) (by kernel_rfl) (by kernel_rfl) ?_
    refine ql (.int .i64 0) (by kernel_rfl) (by kernel_rfl) ?_
    refine ql (.bool false) (by kernel_rfl) (by kernel_rfl) ?_
    refine wpList_nil ?_
    refine x_then ?_
    refine wp_seq ?_
    refine wp_seq ?_
    refine wp_region_lit ?_
    refine ql (.pointer none) (by kernel_rfl) (by kernel_rfl) ?_
    refine ql (.int .i64 i) (by kernel_rfl) (by kernel_rfl) ?_
    refine qc (f := 15) (args := #[.pointer none, .int .i64 i]) (by kernel_rfl) (R_call #[.pointer none, .int .i64 i] Try.func15 (by kernel_rfl) (by kernel_rfl) (by kernel_rfl)) ?_
    refine (shas_nil i _).mono ?_
    rintro e W14 ⟨rfl, H_⟩
    refine ⟨_, rfl, ?_⟩
    replace HS : St W (owns []) W14 [blk g10 [.pointer (some ⟨g6, 0, none⟩)] 24, blk g6 [.slice A7 ((ofL a).length) c8] 77, row A7 ((ofL a).length) c8 (ci .i32 (ofL a)) 21 1, blk g1 [.bool false] 4] := HS.join (F := []) (G := []) H_
    clear H_
    refine ql (.bool false) (by kernel_rfl) (by kernel_rfl) ?_
    refine ql (.pointer none) (by kernel_rfl) (by kernel_rfl) ?_
    refine ql (.int .i64 i) (by kernel_rfl) (by kernel_rfl) ?_
    refine qc (f := 32) (args := #[.pointer none, .int .i64 i]) (by kernel_rfl) (R_call #[.pointer none, .int .i64 i] Try.func32 (by kernel_rfl) (by kernel_rfl) (by kernel_rfl)) ?_
    refine (sadd_nil i _).mono ?_
    rintro e W15 ⟨rfl, H_⟩
    refine ⟨_, rfl, ?_⟩
    replace HS : St W (owns []) W15 [blk g10 [.pointer (some ⟨g6, 0, none⟩)] 24, blk g6 [.slice A7 ((ofL a).length) c8] 77, row A7 ((ofL a).length) c8 (ci .i32 (ofL a)) 21 1, blk g1 [.bool false] 4] := HS.join (F := []) (G := []) H_
    clear H_
    refine ql (.bool false) (by kernel_rfl) (by kernel_rfl) ?_
    refine ql (.bool false) (by kernel_rfl) (by kernel_rfl) ?_
    refine ql (.pointer none) (by kernel_rfl) (by kernel_rfl) ?_
    refine ql (.int .i64 i) (by kernel_rfl) (by kernel_rfl) ?_
    refine qc (f := 33) (args := #[.pointer none, .int .i64 i]) (by kernel_rfl) (R_call #[.pointer none, .int .i64 i] Try.func33 (by kernel_rfl) (by kernel_rfl) (by kernel_rfl)) ?_
    refine (sdel_nil i _).mono ?_
    rintro e W16 ⟨rfl, H_⟩
    refine ⟨_, rfl, ?_⟩
    replace HS : St W (owns []) W16 [blk g10 [.pointer (some ⟨g6, 0, none⟩)] 24, blk g6 [.slice A7 ((ofL a).length) c8] 77, row A7 ((ofL a).length) c8 (ci .i32 (ofL a)) 21 1, blk g1 [.bool false] 4] := HS.join (F := []) (G := []) H_
    clear H_
    refine ql (.bool false) (by kernel_rfl) (by kernel_rfl) ?_
    refine ql (.bool false) (by kernel_rfl) (by kernel_rfl) ?_
    refine ql (.pointer none) (by kernel_rfl) (by kernel_rfl) ?_
    refine ql (.pointer (some ⟨g6, 0, none⟩)) (by kernel_rfl) (R_load (p := ⟨g10, 0, none⟩) (by kernel_rfl) (by kernel_rfl) (by kernel_rfl) (HS.cell (i := 0) (j := 0) rfl rfl)) ?_
    refine qc (f := 17) (args := #[.pointer none, .pointer (some ⟨g6, 0, none⟩)]) (by kernel_rfl) (R_call #[.pointer none, .pointer (some ⟨g6, 0, none⟩)] Try.func17 (by kernel_rfl) (by kernel_rfl) (by kernel_rfl)) ?_
    refine (sor_nl g6 _).mono ?_
    rintro e W17 ⟨rfl, H_⟩
    refine ⟨_, rfl, ?_⟩
    replace HS : St W (owns []) W17 [blk g10 [.pointer (some ⟨g6, 0, none⟩)] 24, blk g6 [.slice A7 ((ofL a).length) c8] 77, row A7 ((ofL a).length) c8 (ci .i32 (ofL a)) 21 1, blk g1 [.bool false] 4] := HS.join (F := []) (G := []) H_
    clear H_
    refine ql (.bool false) (by kernel_rfl) (by kernel_rfl) ?_
    refine ql (.bool false) (by kernel_rfl) (by kernel_rfl) ?_
    refine ql (.pointer (some ⟨g6, 0, none⟩)) (by kernel_rfl) (R_load (p := ⟨g10, 0, none⟩) (by kernel_rfl) (by kernel_rfl) (by kernel_rfl) (HS.cell (i := 0) (j := 0) rfl rfl)) ?_
    refine ql (.pointer none) (by kernel_rfl) (by kernel_rfl) ?_
    refine qc (f := 17) (args := #[.pointer (some ⟨g6, 0, none⟩), .pointer none]) (by kernel_rfl) (R_call #[.pointer (some ⟨g6, 0, none⟩), .pointer none] Try.func17 (by kernel_rfl) (by kernel_rfl) (by kernel_rfl)) ?_
    refine (sor_nr g6 _).mono ?_
    rintro e W18 ⟨rfl, H_⟩
    refine ⟨_, rfl, ?_⟩
    replace HS : St W (owns []) W18 [blk g10 [.pointer (some ⟨g6, 0, none⟩)] 24, blk g6 [.slice A7 ((ofL a).length) c8] 77, row A7 ((ofL a).length) c8 (ci .i32 (ofL a)) 21 1, blk g1 [.bool false] 4] := HS.join (F := []) (G := []) H_
    clear H_
    refine ql (.bool false) (by kernel_rfl) (by kernel_rfl) ?_
    refine ql (.bool false) (by kernel_rfl) (by kernel_rfl) ?_
    refine ql (.pointer none) (by kernel_rfl) (by kernel_rfl) ?_
    refine qc (f := 13) (args := #[.pointer none]) (by kernel_rfl) (R_call #[.pointer none] Try.func13 (by kernel_rfl) (by kernel_rfl) (by kernel_rfl)) ?_
    refine (slen_nil _).mono ?_
    rintro e W19 ⟨rfl, H_⟩
    refine ⟨_, rfl, ?_⟩
    replace HS : St W (owns []) W19 [blk g10 [.pointer (some ⟨g6, 0, none⟩)] 24, blk g6 [.slice A7 ((ofL a).length) c8] 77, row A7 ((ofL a).length) c8 (ci .i32 (ofL a)) 21 1, blk g1 [.bool false] 4] := HS.join (F := []) (G := []) H_
    clear H_
    refine ql (.bool false) (by kernel_rfl) (R_beq (b := ((0 : Int) != 0)) (by kernel_rfl) (by decide)) ?_
    refine ql (.bool false) (by kernel_rfl) (by kernel_rfl) ?_
    refine ql (.bool false) (by kernel_rfl) (by kernel_rfl) ?_
    refine ql (.int .i64 0) (by kernel_rfl) (by kernel_rfl) ?_
    refine ql (.bool false) (by kernel_rfl) (R_beq (b := ((0 : Int) != 0)) (by kernel_rfl) (by decide)) ?_
    refine ql (.bool false) (by kernel_rfl) (by kernel_rfl) ?_
    refine ql (.bool false) (by kernel_rfl) (by kernel_rfl) ?_
    refine ql (.bool false) (by kernel_rfl) (by kernel_rfl) ?_
    refine ql (.bool false) (by kernel_rfl) (by kernel_rfl) ?_
    refine ql (.bool false) (by kernel_rfl) (by kernel_rfl) ?_
    refine ql (.pointer none) (by kernel_rfl) (by kernel_rfl) ?_
    refine ql (.int .i64 i) (by kernel_rfl) (by kernel_rfl) ?_
    refine qc (f := 14) (args := #[.pointer none, .int .i64 i]) (by kernel_rfl) (R_call #[.pointer none, .int .i64 i] Try.func14 (by kernel_rfl) (by kernel_rfl) (by kernel_rfl)) ?_
    refine (srank_nil i _).mono ?_
    rintro e W20 ⟨rfl, H_⟩
    refine ⟨_, rfl, ?_⟩
    replace HS : St W (owns []) W20 [blk g10 [.pointer (some ⟨g6, 0, none⟩)] 24, blk g6 [.slice A7 ((ofL a).length) c8] 77, row A7 ((ofL a).length) c8 (ci .i32 (ofL a)) 21 1, blk g1 [.bool false] 4] := HS.join (F := []) (G := []) H_
    clear H_
    refine ql (.bool false) (by kernel_rfl) (R_beq (b := ((0 : Int) != 0)) (by kernel_rfl) (by decide)) ?_
    refine ql (.bool false) (by kernel_rfl) (by kernel_rfl) ?_
    refine ql (.bool false) (by kernel_rfl) (by kernel_rfl) ?_
    refine ql (.pointer none) (by kernel_rfl) (by kernel_rfl) ?_
    refine qc (f := 26) (args := #[.pointer none]) (by kernel_rfl) (R_call #[.pointer none] Try.func26 (by kernel_rfl) (by kernel_rfl) (by kernel_rfl)) ?_
    refine (slist_nil _).mono ?_
    rintro e W23 ⟨A21, c22, rfl, H_⟩
    refine ⟨_, rfl, ?_⟩
    replace HS : St W (owns []) W23 [row A21 0 c22 (ci .i64 ([])) 3 1, blk g10 [.pointer (some ⟨g6, 0, none⟩)] 24, blk g6 [.slice A7 ((ofL a).length) c8] 77, row A7 ((ofL a).length) c8 (ci .i32 (ofL a)) 21 1, blk g1 [.bool false] 4] := HS.join (F := []) (G := [row A21 0 c22 (ci .i64 ([])) 3 1]) H_
    clear H_
    refine ql (.int .i64 0) (by kernel_rfl) (by kernel_rfl) ?_
    refine ql (.bool false) (by kernel_rfl) (R_beq (b := decide ((0 : Int) > 0)) (by kernel_rfl) (by decide)) ?_
    refine ql (.bool false) (by kernel_rfl) (by kernel_rfl) ?_
    refine ql (.bool false) (by kernel_rfl) (by kernel_rfl) ?_
    refine ql (.pointer none) (by kernel_rfl) (by kernel_rfl) ?_
    refine ql (.pointer (some ⟨g6, 0, none⟩)) (by kernel_rfl) (R_load (p := ⟨g10, 0, none⟩) (by kernel_rfl) (by kernel_rfl) (by kernel_rfl) (HS.cell (i := 1) (j := 0) rfl rfl)) ?_
    refine qc (f := 16) (args := #[.pointer none, .pointer (some ⟨g6, 0, none⟩)]) (by kernel_rfl) (R_call #[.pointer none, .pointer (some ⟨g6, 0, none⟩)] Try.func16 (by kernel_rfl) (by kernel_rfl) (by kernel_rfl)) ?_
    refine (smeet_nl g6 _).mono ?_
    rintro e W24 ⟨rfl, H_⟩
    refine ⟨_, rfl, ?_⟩
    replace HS : St W (owns []) W24 [row A21 0 c22 (ci .i64 ([])) 3 1, blk g10 [.pointer (some ⟨g6, 0, none⟩)] 24, blk g6 [.slice A7 ((ofL a).length) c8] 77, row A7 ((ofL a).length) c8 (ci .i32 (ofL a)) 21 1, blk g1 [.bool false] 4] := HS.join (F := []) (G := []) H_
    clear H_
    refine ql (.int .i64 0) (by kernel_rfl) (by kernel_rfl) ?_
    refine ql (.bool false) (by kernel_rfl) (R_beq (b := decide ((0 : Int) > 0)) (by kernel_rfl) (by decide)) ?_
    refine ql (.bool false) (by kernel_rfl) (by kernel_rfl) ?_
    refine wpList_nil ?_
    refine x_then ?_
    refine wp_cond_false (by kernel_rfl) ?_
    refine wp_skip ?_
    refine x_then ?_
    refine wp_seq ?_
    refine wp_region_lit ?_
    refine ql (.pointer (some ⟨g6, 0, none⟩)) (by kernel_rfl) (R_load (p := ⟨g10, 0, none⟩) (by kernel_rfl) (by kernel_rfl) (by kernel_rfl) (HS.cell (i := 1) (j := 0) rfl rfl)) ?_
    refine qc (f := 34) (args := #[.pointer (some ⟨g6, 0, none⟩)]) (by kernel_rfl) (R_call #[.pointer (some ⟨g6, 0, none⟩)] Try.func34 (by kernel_rfl) (by kernel_rfl) (by kernel_rfl)) ?_
    refine (sall g6 _).mono ?_
    rintro e W26 ⟨b25, rfl, H_⟩
    refine ⟨_, rfl, ?_⟩
    replace HS : St W (owns []) W26 [blk b25 [.pointer (some ⟨g6, 0, none⟩)] 24, row A21 0 c22 (ci .i64 ([])) 3 1, blk g10 [.pointer (some ⟨g6, 0, none⟩)] 24, blk g6 [.slice A7 ((ofL a).length) c8] 77, row A7 ((ofL a).length) c8 (ci .i32 (ofL a)) 21 1, blk g1 [.bool false] 4] := HS.join (F := []) (G := [blk b25 [.pointer (some ⟨g6, 0, none⟩)] 24]) H_
    clear H_
    refine ql (.func (.func 67) #[] #[.pointer (some ⟨b25, 0, none⟩)]) (by kernel_rfl) (by kernel_rfl) ?_
    refine wpList_nil ?_
    refine x_then ?_
    refine wp_seq ?_
    refine wp_seq ?_
    refine wp_region_lit ?_
    refine ql (.func (.func 67) #[] #[.pointer (some ⟨b25, 0, none⟩)]) (by kernel_rfl) (by kernel_rfl) ?_
    refine ql (.bool false) (by kernel_rfl) (by kernel_rfl) ?_
    refine wpList_nil ?_
    refine x_then ?_
    refine wp_cond_false (by kernel_rfl) ?_
    refine wp_skip ?_
    refine x_then ?_
    refine wp_seq ?_
    refine wp_seq ?_
    refine wp_region_lit ?_
    refine ql (.func (.func 67) #[] #[.pointer (some ⟨b25, 0, none⟩)]) (by kernel_rfl) (by kernel_rfl) ?_
    refine wpList_nil ?_
    refine x_then ?_
    refine wp_block ?_
    have HDT : SpT b25 g6 c8 A7 (ofL a) _ := ⟨HS.cell (i := 0) (j := 0) rfl rfl, HS.cell (i := 3) (j := 0) rfl rfl, Rd.row HS (i := 4) rfl⟩
    have HSb := HS
    refine rangeF (gf := 67) (lb := #[.pointer (some ⟨b25, 0, none⟩)]) (m := 0) (by kernel_rfl) (enters_of Try.func67 (by kernel_rfl) rfl) (sall_stops b25 g6 c8 A7 (ofL a) _ HDT.hb HDT.h0 HDT.hr (ofL_s31 a) (by omega) 0) (fun h_ k_ => fun x_ => k_ (h_ x_)) (fun X l_ o_ o2_ _ h1_ h2_ _ => fun x_ => x_.put h1_ h2_)
      (fun pre w' => (pre = []) ∧ St W (owns []) w' [blk b25 [.pointer (some ⟨g6, 0, none⟩)] 24, row A21 0 c22 (ci .i64 ([])) 3 1, blk g10 [.pointer (some ⟨g6, 0, none⟩)] 24, blk g6 [.slice A7 ((ofL a).length) c8] 77, row A7 ((ofL a).length) c8 (ci .i32 (ofL a)) 21 1, blk g1 [.bool false] 4])
      (fun c pre w' => (c = Code.ret ∧ (∃ y, pre = [y] ∧ (y ∉ ofL a ∨ rk (ofL a) y ≠ 0)) ∧ St W (owns []) w' [blk b25 [.pointer (some ⟨g6, 0, none⟩)] 24, row A21 0 c22 (ci .i64 ([])) 3 1, blk g10 [.pointer (some ⟨g6, 0, none⟩)] 24, blk g6 [.slice A7 ((ofL a).length) c8] 77, row A7 ((ofL a).length) c8 (ci .i32 (ofL a)) 21 1, blk g1 [.bool false] 4]) ∨ (c = Code.exit 0 ∧ St W (owns []) w' [blk b25 [.pointer (some ⟨g6, 0, none⟩)] 24, row A21 0 c22 (ci .i64 ([])) 3 1, blk g10 [.pointer (some ⟨g6, 0, none⟩)] 24, blk g6 [.slice A7 ((ofL a).length) c8] 77, row A7 ((ofL a).length) c8 (ci .i32 (ofL a)) 21 1, blk g1 [.bool false] 4]))
      (fun s_ A_ B_ r_ h_ hg_ hr_ => by obtain ⟨hp0, HS⟩ := h_; exact ⟨hp0, HS.grown (cel_cons blk_cel (cel_cons row_cel (cel_cons blk_cel (cel_cons blk_cel (cel_cons row_cel (cel_cons blk_cel cel_nil)))))) HSb.le hg_ hr_⟩)
      (fun c_ s_ A_ B_ r_ h_ hg_ hr_ => (fun h_ => h_.elim (fun ⟨hc_, ⟨hp2, HS⟩⟩ => .inl (⟨hc_, hp2, HS.grown (cel_cons blk_cel (cel_cons row_cel (cel_cons blk_cel (cel_cons blk_cel (cel_cons row_cel (cel_cons blk_cel cel_nil)))))) HSb.le hg_ hr_⟩)) (fun h_ => .inr ((fun ⟨hc_, HS⟩ => ⟨hc_, HS.grown (cel_cons blk_cel (cel_cons row_cel (cel_cons blk_cel (cel_cons blk_cel (cel_cons row_cel (cel_cons blk_cel cel_nil)))))) HSb.le hg_ hr_⟩) h_))) h_)
      (by exact ⟨rfl, HS⟩)
      (fun x => ((.int .i64 i) :: (.slice Aa a.length ca) :: undef :: undef :: (.pointer (some ⟨g1, 0, none⟩)) :: (.pointer none) :: (.pointer (some ⟨g10, 0, none⟩)) :: (.int .i64 0) :: (.bool false) :: (.func (.func 67) #[] #[.pointer (some ⟨b25, 0, none⟩)]) :: (.int .i64 x) :: (.slice Aa a.length ca) :: (.int .i64 (a.length : Int)) :: (.bool false) :: undef :: (.slice Aa a.length ca) :: (.pointer (some ⟨g6, 0, none⟩)) :: (.tuple #[.int .i64 0, .bool false]) :: (.pointer none) :: (.int .i64 i) :: (.tuple #[.int .i64 0, .bool false]) :: (.int .i64 0) :: (.bool false) :: (.pointer none) :: (.int .i64 i) :: (.bool false) :: (.bool false) :: (.pointer none) :: (.int .i64 i) :: (.bool false) :: (.bool false) :: (.bool false) :: (.pointer none) :: (.int .i64 i) :: (.bool false) :: (.bool false) :: (.bool false) :: (.pointer none) :: (.pointer (some ⟨g6, 0, none⟩)) :: (.bool false) :: (.bool false) :: (.bool false) :: (.pointer (some ⟨g6, 0, none⟩)) :: (.pointer none) :: (.bool false) :: (.bool false) :: (.bool false) :: (.pointer none) :: (.int .i64 0) :: (.bool false) :: (.bool false) :: (.bool false) :: (.int .i64 0) :: (.bool false) :: (.bool false) :: (.bool false) :: (.bool false) :: (.bool false) :: (.bool false) :: (.pointer none) :: (.int .i64 i) :: (.int .i64 0) :: (.bool false) :: (.bool false) :: (.bool false) :: (.pointer none) :: (.slice A21 0 c22) :: (.int .i64 0) :: (.bool false) :: (.bool false) :: (.bool false) :: (.pointer none) :: (.pointer (some ⟨g6, 0, none⟩)) :: (.slice none 0 0) :: (.int .i64 0) :: (.bool false) :: (.bool false) :: (.pointer (some ⟨g6, 0, none⟩)) :: (.func (.func 67) #[] #[.pointer (some ⟨b25, 0, none⟩)]) :: (.func (.func 67) #[] #[.pointer (some ⟨b25, 0, none⟩)]) :: (.bool false) :: (.func (.func 67) #[] #[.pointer (some ⟨b25, 0, none⟩)]) :: (.int .i64 x) :: undef :: undef :: undef :: undef :: undef :: undef :: undef :: undef :: undef :: undef :: undef :: [])) ?_ ?_ ?_ ?_
    · intro l x W27 K_ hK_
      refine wp_region_litR (by kernel_rfl) (fun ⟨_, _, h_⟩ => (h_ : False)) ?_
      refine ql (.int .i64 x) (by kernel_rfl) (by kernel_rfl) ?_
      refine wpList_nil ?_
      refine x_then ?_
      exact kk_ (congrArg Fr (by kernel_rfl)) hK_
    · intro l pre x W27 hI_ hlt
      obtain ⟨hp0, HS⟩ := hI_
      have HO := HS
      replace HS := HO.root
      refine wpIn_block ?_
      refine wpIn_seq ?_
      refine wpIn_seq ?_
      refine wp_region_litR (by kernel_rfl) (fun ⟨_, _, h_⟩ => (h_ : False)) ?_
      refine ql (.pointer (some ⟨g6, 0, none⟩)) (by kernel_rfl) (R_load (p := ⟨g10, 0, none⟩) (by kernel_rfl) (by kernel_rfl) (by kernel_rfl) (HS.cell (i := 2) (j := 0) rfl rfl)) ?_
      refine ql (.int .i64 x) (by kernel_rfl) (by kernel_rfl) ?_
      refine qc (f := 15) (args := #[.pointer (some ⟨g6, 0, none⟩), .int .i64 x]) (by kernel_rfl) (R_call #[.pointer (some ⟨g6, 0, none⟩), .int .i64 x] Try.func15 (by kernel_rfl) (by kernel_rfl) (by kernel_rfl)) ?_
      by_cases hHas : x ∈ ofL a
      · skip
        refine (shas g6 c8 A7 (ofL a) x _ (HS.cell (i := 3) (j := 0) rfl rfl) (Rd.row HS (i := 4) rfl) (ofL_s31 a) (by omega)).mono ?_
        rintro e W28 ⟨rfl, H_⟩
        rw [decide_eq_true hHas]
        refine ⟨_, rfl, ?_⟩
        replace HS : St W27 (owns [blk b25 [.pointer (some ⟨g6, 0, none⟩)] 24, row A21 0 c22 (ci .i64 ([])) 3 1, blk g10 [.pointer (some ⟨g6, 0, none⟩)] 24, blk g6 [.slice A7 ((ofL a).length) c8] 77, row A7 ((ofL a).length) c8 (ci .i32 (ofL a)) 21 1, blk g1 [.bool false] 4]) W28 [blk b25 [.pointer (some ⟨g6, 0, none⟩)] 24, row A21 0 c22 (ci .i64 ([])) 3 1, blk g10 [.pointer (some ⟨g6, 0, none⟩)] 24, blk g6 [.slice A7 ((ofL a).length) c8] 77, row A7 ((ofL a).length) c8 (ci .i32 (ofL a)) 21 1, blk g1 [.bool false] 4] := HS.join (F := []) (G := []) H_
        clear H_
        refine ql (.bool false) (by kernel_rfl) (by kernel_rfl) ?_
        refine ql (.bool false) (by kernel_rfl) (by kernel_rfl) ?_
        refine ql (.pointer (some ⟨g6, 0, none⟩)) (by kernel_rfl) (R_load (p := ⟨g10, 0, none⟩) (by kernel_rfl) (by kernel_rfl) (by kernel_rfl) (HS.cell (i := 2) (j := 0) rfl rfl)) ?_
        refine ql (.int .i64 x) (by kernel_rfl) (by kernel_rfl) ?_
        refine qc (f := 14) (args := #[.pointer (some ⟨g6, 0, none⟩), .int .i64 x]) (by kernel_rfl) (R_call #[.pointer (some ⟨g6, 0, none⟩), .int .i64 x] Try.func14 (by kernel_rfl) (by kernel_rfl) (by kernel_rfl)) ?_
        by_cases hRank : rk (ofL a) x = 0
        · skip
          refine (srank g6 c8 A7 (ofL a) x _ (HS.cell (i := 3) (j := 0) rfl rfl) (Rd.row HS (i := 4) rfl) (ofL_s31 a) (by omega)).mono ?_
          rintro e W29 ⟨rfl, H_⟩
          rw [hRank]
          refine ⟨_, rfl, ?_⟩
          replace HS : St W27 (owns [blk b25 [.pointer (some ⟨g6, 0, none⟩)] 24, row A21 0 c22 (ci .i64 ([])) 3 1, blk g10 [.pointer (some ⟨g6, 0, none⟩)] 24, blk g6 [.slice A7 ((ofL a).length) c8] 77, row A7 ((ofL a).length) c8 (ci .i32 (ofL a)) 21 1, blk g1 [.bool false] 4]) W29 [blk b25 [.pointer (some ⟨g6, 0, none⟩)] 24, row A21 0 c22 (ci .i64 ([])) 3 1, blk g10 [.pointer (some ⟨g6, 0, none⟩)] 24, blk g6 [.slice A7 ((ofL a).length) c8] 77, row A7 ((ofL a).length) c8 (ci .i32 (ofL a)) 21 1, blk g1 [.bool false] 4] := HS.join (F := []) (G := []) H_
          clear H_
          refine ql (.bool false) (by kernel_rfl) (R_beq (b := ((0 : Int) != 0)) (by kernel_rfl) (by decide)) ?_
          refine ql (.bool false) (by kernel_rfl) (by kernel_rfl) ?_
          refine wpList_nil ?_
          refine x_then ?_
          refine wpIn_cond_false (by kernel_rfl) ?_
          refine wpIn_skip ?_
          refine x_then ?_
          refine wpIn_exit ?_
          refine x_pass (by decide) ?_
          have HF := HO.unroot HS
          exact og_e (HS.keepsFrom HO (cel_cons blk_cel (cel_cons row_cel (cel_cons blk_cel (cel_cons blk_cel (cel_cons row_cel (cel_cons blk_cel cel_nil)))))) _) (.inr ⟨rfl, HF⟩)
        · skip
          refine (srank g6 c8 A7 (ofL a) x _ (HS.cell (i := 3) (j := 0) rfl rfl) (Rd.row HS (i := 4) rfl) (ofL_s31 a) (by omega)).mono ?_
          rintro e W30 ⟨rfl, H_⟩
          refine ⟨_, rfl, ?_⟩
          replace HS : St W27 (owns [blk b25 [.pointer (some ⟨g6, 0, none⟩)] 24, row A21 0 c22 (ci .i64 ([])) 3 1, blk g10 [.pointer (some ⟨g6, 0, none⟩)] 24, blk g6 [.slice A7 ((ofL a).length) c8] 77, row A7 ((ofL a).length) c8 (ci .i32 (ofL a)) 21 1, blk g1 [.bool false] 4]) W30 [blk b25 [.pointer (some ⟨g6, 0, none⟩)] 24, row A21 0 c22 (ci .i64 ([])) 3 1, blk g10 [.pointer (some ⟨g6, 0, none⟩)] 24, blk g6 [.slice A7 ((ofL a).length) c8] 77, row A7 ((ofL a).length) c8 (ci .i32 (ofL a)) 21 1, blk g1 [.bool false] 4] := HS.join (F := []) (G := []) H_
          clear H_
          by_cases hc31 : (rk (ofL a) x) = (0 : Int)
          · skip
            refine ql (.bool false) (by kernel_rfl) (R_beq (b := ((rk (ofL a) x) != (0 : Int))) (by kernel_rfl) (bne_f (hc31))) ?_
            refine ql (.bool false) (by kernel_rfl) (by kernel_rfl) ?_
            refine wpList_nil ?_
            refine x_then ?_
            refine wpIn_cond_false (by kernel_rfl) ?_
            refine wpIn_skip ?_
            refine x_then ?_
            refine wpIn_exit ?_
            refine x_pass (by decide) ?_
            have HF := HO.unroot HS
            exact og_e (HS.keepsFrom HO (cel_cons blk_cel (cel_cons row_cel (cel_cons blk_cel (cel_cons blk_cel (cel_cons row_cel (cel_cons blk_cel cel_nil)))))) _) (.inr ⟨rfl, HF⟩)
          · skip
            refine ql (.bool true) (by kernel_rfl) (R_beq (b := ((rk (ofL a) x) != (0 : Int))) (by kernel_rfl) (bne_t (hc31))) ?_
            refine ql (.bool true) (by kernel_rfl) (by kernel_rfl) ?_
            refine wpList_nil ?_
            refine x_then ?_
            refine wpIn_cond_true (by kernel_rfl) ?_
            refine wpIn_seq ?_
            refine wp_region_litR (by kernel_rfl) (fun ⟨_, _, h_⟩ => (h_ : False)) ?_
            refine ks (v := .bool false) HS 5 rfl (0) [.bool false] (by kernel_rfl) (by kernel_rfl) (by kernel_rfl) (by kernel_rfl) (by kernel_rfl) (one_ (by kernel_rfl)) (Nat.le_of_ble_eq_true rfl) rfl ?_
            intro W32 H_
            replace HS : St W27 (owns [blk b25 [.pointer (some ⟨g6, 0, none⟩)] 24, row A21 0 c22 (ci .i64 ([])) 3 1, blk g10 [.pointer (some ⟨g6, 0, none⟩)] 24, blk g6 [.slice A7 ((ofL a).length) c8] 77, row A7 ((ofL a).length) c8 (ci .i32 (ofL a)) 21 1, blk g1 [.bool false] 4]) W32 [blk b25 [.pointer (some ⟨g6, 0, none⟩)] 24, row A21 0 c22 (ci .i64 ([])) 3 1, blk g10 [.pointer (some ⟨g6, 0, none⟩)] 24, blk g6 [.slice A7 ((ofL a).length) c8] 77, row A7 ((ofL a).length) c8 (ci .i32 (ofL a)) 21 1, blk g1 [.bool false] 4] := H_
            clear H_
            refine wpList_nil ?_
            refine x_then ?_
            refine wpIn_ret ?_
            refine x_thenR ?_
            refine x_inbR ?_
            have HF := HO.unroot HS
            exact og_r (HS.keepsFrom HO (cel_cons blk_cel (cel_cons row_cel (cel_cons blk_cel (cel_cons blk_cel (cel_cons row_cel (cel_cons blk_cel cel_nil)))))) _) (.inl ⟨rfl, ⟨x, by rw [hp0]; rfl, .inr hRank⟩, HF⟩)
      · skip
        refine (shas g6 c8 A7 (ofL a) x _ (HS.cell (i := 3) (j := 0) rfl rfl) (Rd.row HS (i := 4) rfl) (ofL_s31 a) (by omega)).mono ?_
        rintro e W33 ⟨rfl, H_⟩
        rw [decide_eq_false hHas]
        refine ⟨_, rfl, ?_⟩
        replace HS : St W27 (owns [blk b25 [.pointer (some ⟨g6, 0, none⟩)] 24, row A21 0 c22 (ci .i64 ([])) 3 1, blk g10 [.pointer (some ⟨g6, 0, none⟩)] 24, blk g6 [.slice A7 ((ofL a).length) c8] 77, row A7 ((ofL a).length) c8 (ci .i32 (ofL a)) 21 1, blk g1 [.bool false] 4]) W33 [blk b25 [.pointer (some ⟨g6, 0, none⟩)] 24, row A21 0 c22 (ci .i64 ([])) 3 1, blk g10 [.pointer (some ⟨g6, 0, none⟩)] 24, blk g6 [.slice A7 ((ofL a).length) c8] 77, row A7 ((ofL a).length) c8 (ci .i32 (ofL a)) 21 1, blk g1 [.bool false] 4] := HS.join (F := []) (G := []) H_
        clear H_
        refine ql (.bool true) (by kernel_rfl) (by kernel_rfl) ?_
        refine ql (.bool true) (by kernel_rfl) (by kernel_rfl) ?_
        refine qln (by kernel_rfl) ?_
        refine qln (by kernel_rfl) ?_
        refine qln (by kernel_rfl) ?_
        refine qln (by kernel_rfl) ?_
        refine ql (.bool true) (by kernel_rfl) (by kernel_rfl) ?_
        refine wpList_nil ?_
        refine x_then ?_
        refine wpIn_cond_true (by kernel_rfl) ?_
        refine wpIn_seq ?_
        refine wp_region_litR (by kernel_rfl) (fun ⟨_, _, h_⟩ => (h_ : False)) ?_
        refine ks (v := .bool false) HS 5 rfl (0) [.bool false] (by kernel_rfl) (by kernel_rfl) (by kernel_rfl) (by kernel_rfl) (by kernel_rfl) (one_ (by kernel_rfl)) (Nat.le_of_ble_eq_true rfl) rfl ?_
        intro W34 H_
        replace HS : St W27 (owns [blk b25 [.pointer (some ⟨g6, 0, none⟩)] 24, row A21 0 c22 (ci .i64 ([])) 3 1, blk g10 [.pointer (some ⟨g6, 0, none⟩)] 24, blk g6 [.slice A7 ((ofL a).length) c8] 77, row A7 ((ofL a).length) c8 (ci .i32 (ofL a)) 21 1, blk g1 [.bool false] 4]) W34 [blk b25 [.pointer (some ⟨g6, 0, none⟩)] 24, row A21 0 c22 (ci .i64 ([])) 3 1, blk g10 [.pointer (some ⟨g6, 0, none⟩)] 24, blk g6 [.slice A7 ((ofL a).length) c8] 77, row A7 ((ofL a).length) c8 (ci .i32 (ofL a)) 21 1, blk g1 [.bool false] 4] := H_
        clear H_
        refine wpList_nil ?_
        refine x_then ?_
        refine wpIn_ret ?_
        refine x_thenR ?_
        refine x_inbR ?_
        have HF := HO.unroot HS
        exact og_r (HS.keepsFrom HO (cel_cons blk_cel (cel_cons row_cel (cel_cons blk_cel (cel_cons blk_cel (cel_cons row_cel (cel_cons blk_cel cel_nil)))))) _) (.inl ⟨rfl, ⟨x, by rw [hp0]; rfl, .inl hHas⟩, HF⟩)
    · intro D xs W27 hD hS hI_ hdf
      obtain ⟨hp0, HS⟩ := hI_
      replace HS := HS.addD (cel_cons blk_cel (cel_cons row_cel (cel_cons blk_cel (cel_cons blk_cel (cel_cons row_cel (cel_cons blk_cel cel_nil)))))) (Nat.le_trans HSb.le hD) hdf
      refine x_inb ?_
      refine x_then ?_
      refine wp_seq ?_
      refine wp_region_lit ?_
      refine qc (f := 10) (args := #[]) (by kernel_rfl) (R_call #[] Try.func10 (by kernel_rfl) (by kernel_rfl) (by kernel_rfl)) ?_
      refine (sawake _).mono ?_
      rintro e W35 ⟨rfl, H_⟩
      refine ⟨_, rfl, ?_⟩
      replace HS : St W (owns []) W35 [dfr D, blk b25 [.pointer (some ⟨g6, 0, none⟩)] 24, row A21 0 c22 (ci .i64 ([])) 3 1, blk g10 [.pointer (some ⟨g6, 0, none⟩)] 24, blk g6 [.slice A7 ((ofL a).length) c8] 77, row A7 ((ofL a).length) c8 (ci .i32 (ofL a)) 21 1, blk g1 [.bool false] 4] := HS.join (F := []) (G := []) H_
      clear H_
      refine ks (v := .bool true) HS 6 rfl (0) [.bool true] (by kernel_rfl) (by kernel_rfl) (by kernel_rfl) (by kernel_rfl) (by kernel_rfl) (one_ (by kernel_rfl)) (Nat.le_of_ble_eq_true rfl) rfl ?_
      intro W36 H_
      replace HS : St W (owns []) W36 [dfr D, blk b25 [.pointer (some ⟨g6, 0, none⟩)] 24, row A21 0 c22 (ci .i64 ([])) 3 1, blk g10 [.pointer (some ⟨g6, 0, none⟩)] 24, blk g6 [.slice A7 ((ofL a).length) c8] 77, row A7 ((ofL a).length) c8 (ci .i32 (ofL a)) 21 1, blk g1 [.bool true] 4] := H_
      clear H_
      refine wpList_nil ?_
      refine x_then ?_
      refine wp_ret ?_
      refine retD_ HS ?_
      clear HS
      intro W37 HS
      refine ⟨.bool true, res1 rfl (oneRes_one (p := ⟨g1, 0, none⟩) (by kernel_rfl) (by kernel_rfl) (by kernel_rfl) (HS.cell (i := 5) (j := 0) rfl rfl)), ?_⟩
      replace HS := HS.drop1
      replace HS := HS.drop1
      replace HS := HS.drop1
      replace HS := HS.drop1
      replace HS := HS.drop1
      replace HS := HS.drop1
      exact ⟨rfl, HS⟩
    · intro D c pre W27 hD hSp hIx_ hdf
      rcases hIx_ with h_ | h_
      · skip
        obtain ⟨rfl, hp2, HS⟩ := h_
        replace HS := HS.addD (cel_cons blk_cel (cel_cons row_cel (cel_cons blk_cel (cel_cons blk_cel (cel_cons row_cel (cel_cons blk_cel cel_nil)))))) (Nat.le_trans HSb.le hD) hdf
        refine wp_ret ?_
        refine x_inbR ?_
        refine x_thenR ?_
        refine retD_ HS ?_
        clear HS
        intro W38 HS
        refine ⟨.bool false, res1 rfl (oneRes_one (p := ⟨g1, 0, none⟩) (by kernel_rfl) (by kernel_rfl) (by kernel_rfl) (HS.cell (i := 5) (j := 0) rfl rfl)), ?_⟩
        exact (first_no (ofL_s31 a).1 hSp hp2).elim
      · skip
        obtain ⟨rfl, HS⟩ := h_
        replace HS := HS.addD (cel_cons blk_cel (cel_cons row_cel (cel_cons blk_cel (cel_cons blk_cel (cel_cons row_cel (cel_cons blk_cel cel_nil)))))) (Nat.le_trans HSb.le hD) hdf
        refine wp_exit ?_
        refine x_hit ?_
        refine x_then ?_
        refine wp_seq ?_
        refine wp_region_lit ?_
        refine qc (f := 10) (args := #[]) (by kernel_rfl) (R_call #[] Try.func10 (by kernel_rfl) (by kernel_rfl) (by kernel_rfl)) ?_
        refine (sawake _).mono ?_
        rintro e W39 ⟨rfl, H_⟩
        refine ⟨_, rfl, ?_⟩
        replace HS : St W (owns []) W39 [dfr D, blk b25 [.pointer (some ⟨g6, 0, none⟩)] 24, row A21 0 c22 (ci .i64 ([])) 3 1, blk g10 [.pointer (some ⟨g6, 0, none⟩)] 24, blk g6 [.slice A7 ((ofL a).length) c8] 77, row A7 ((ofL a).length) c8 (ci .i32 (ofL a)) 21 1, blk g1 [.bool false] 4] := HS.join (F := []) (G := []) H_
        clear H_
        refine ks (v := .bool true) HS 6 rfl (0) [.bool true] (by kernel_rfl) (by kernel_rfl) (by kernel_rfl) (by kernel_rfl) (by kernel_rfl) (one_ (by kernel_rfl)) (Nat.le_of_ble_eq_true rfl) rfl ?_
        intro W40 H_
        replace HS : St W (owns []) W40 [dfr D, blk b25 [.pointer (some ⟨g6, 0, none⟩)] 24, row A21 0 c22 (ci .i64 ([])) 3 1, blk g10 [.pointer (some ⟨g6, 0, none⟩)] 24, blk g6 [.slice A7 ((ofL a).length) c8] 77, row A7 ((ofL a).length) c8 (ci .i32 (ofL a)) 21 1, blk g1 [.bool true] 4] := H_
        clear H_
        refine wpList_nil ?_
        refine x_then ?_
        refine wp_ret ?_
        refine retD_ HS ?_
        clear HS
        intro W41 HS
        refine ⟨.bool true, res1 rfl (oneRes_one (p := ⟨g1, 0, none⟩) (by kernel_rfl) (by kernel_rfl) (by kernel_rfl) (HS.cell (i := 5) (j := 0) rfl rfl)), ?_⟩
        replace HS := HS.drop1
        replace HS := HS.drop1
        replace HS := HS.drop1
        replace HS := HS.drop1
        replace HS := HS.drop1
        replace HS := HS.drop1
        exact ⟨rfl, HS⟩


end Go.Proofs.Ytdiodmdohkjafaa.GSparseNone
