/- Written for this claim by gp.py, a program of this session's, over the kit's print. Lean checks it. -/
import Derived.Test.YtdiodmdohkjafaaGSparsePlaysx0
import Derived.Test.YtdiodmdohkjafaaGSparsePlayshx
import Derived.Test.YtdiodmdohkjafaaGSparsePlayshspSparsePlaysa
import Derived.WalkKit
import Derived.StillTailTactics
import Derived.Deep.LoopGhost
import Derived.KernelRfl
import Derived.Deep.OwnRows
import Derived.Laws.OwnMore
import Derived.Laws.MakeOwn
import Derived.Maps.AppendAt
import Derived.OrdersHeld
import Derived.Lib.TrailingZeros
import Derived.Laws.Bits64b
import Derived.Laws.BitsLemmas
import Derived.Laws.Entries
import Derived.RangeFuncWrites
import Derived.RangeFuncLeaves
import Derived.RangeFuncCalls
import Derived.Shelf.Abstract
import Derived.Laws.CopyRow
import Derived.Lib.Overlaps
import Derived.Lib.AppendZerosOnto
import Derived.Lib.SliceRun
import Derived.Laws.IdiomCopy
import Derived.ArgAppend
import Derived.Conc.EntryLaws
import Derived.Maps.OwnSet
import Derived.Maps.Keyed
import Derived.Maps.Views
namespace Go.Proofs.Ytdiodmdohkjafaa.GSparsePlays
open Go.RowKit Go.Proofs.YtdiodmdohkjafaaW.PrintWords Go.Proofs.YtdiodmdohkjafaaW.PrintLast Go.Proofs.YtdiodmdohkjafaaW.PrintMore
attribute [local go_sem] max2_int min2_int max_two min_two max_three min_three max_four min_four   -- for this text's walks alone
set_option linter.unusedVariables false
set_option linter.unusedSimpArgs false

--import Derived.WalkKit
--import Derived.StillTailTactics
--import Derived.Deep.LoopGhost
--import Derived.KernelRfl
--import Derived.Deep.OwnRows
--import Derived.Laws.OwnMore
--import Derived.Laws.MakeOwn
--import Derived.Maps.AppendAt
--import Derived.OrdersHeld
--import Derived.Lib.TrailingZeros
--import Derived.Laws.Bits64b
--import Derived.Laws.BitsLemmas
--import Derived.Laws.Entries
--import Derived.RangeFuncWrites
--import Derived.RangeFuncLeaves
--import Derived.RangeFuncCalls
--import Derived.Shelf.Abstract
--import Derived.Laws.CopyRow
--import Derived.Lib.Overlaps
--import Derived.Lib.AppendZerosOnto
--import Derived.Lib.SliceRun
--import Derived.Laws.IdiomCopy
--import Derived.ArgAppend
--import Derived.Conc.EntryLaws
--import Derived.Maps.OwnSet
--import Derived.Maps.Keyed
--import Derived.Maps.Views
attribute [local irreducible] wpStill wpList Code.wp TA
open Go.Shelf

open Go.Shelf

def TabAt64 (W : World) : Prop := ∀ j, j < 64 → W.cell? ⟨0, j, none⟩ = some (.int .u8 ((Lib.deBruijn64tab.getD j 0 : Nat) : Int))

open Go.Shelf

open Go.Shelf

theorem TabAt64.old {W0 W : World} {M : Nat → Prop} {L : List Ent} (h : TabAt64 W0) (HS : St W0 M W L) (h0 : 0 < W0.heap.size) (hm : ¬ M 0) : TabAt64 W := fun j hj => by
  have h1 := h j hj
  unfold World.cell? at h1 ⊢
  rw [HS.kept.block 0 h0 hm]
  exact h1
theorem TabAt64.pos {W : World} (h : TabAt64 W) : 0 < W.heap.size := by
  have h1 := h 0 (by decide)
  unfold World.cell? at h1
  refine Nat.pos_of_ne_zero fun e => ?_
  have hn : W.heap[0]? = none := by rw [Array.getElem?_eq_none_iff]; omega
  rw [hn] at h1; simp at h1
theorem TabAt64.old0 {W0 W : World} {L : List Ent} (h : TabAt64 W0) (HS : St W0 (owns []) W L) : TabAt64 W := h.old HS h.pos (by rintro ⟨e, he, _⟩; cases he)
open Go.Shelf

open Go.Shelf

theorem TabAt64.put {W : World} {l : Nat} {o o' : Obj} (h : TabAt64 W) (hl : W.heap[l]? = some o) (ho : o.isCells = false) : TabAt64 (W.putObj l o') := fun j hj => by
  have hp := h j hj
  obtain ⟨o2, h2, h3⟩ := cells_of_cell hp
  refine (World.cell?_of_block (World.putObj_heap_other (fun e => ?_))).trans hp
  rw [e, hl] at h2; cases h2; rw [ho] at h3; cases h3
theorem TabAt64.below {W W' : World} (h : TabAt64 W) (hb : Below W.heap.size W W') : TabAt64 W' := fun j hj => (hb.cell (World.block_lt_of_cell? W _ (h j hj))).trans (h j hj)
/-- What the iterator over a set reads. -/
def DnT (b g c : Nat) (A : Option Addr) (ws : List Int) (n : Int) (W : World) : Prop := DnI b g c A ws n W ∧ TabAt64 W
theorem DnT.below {b g c : Nat} {A : Option Addr} {ws : List Int} {n : Int} {W W' : World} (h : DnT b g c A ws n W) (hb : Below W.heap.size W W') : DnT b g c A ws n W' := ⟨h.1.tail_ hb, h.2.below hb⟩
theorem DnT.put {b g c : Nat} {A : Option Addr} {ws : List Int} {n : Int} {W : World} {l : Nat} {o o' : Obj} (h : DnT b g c A ws n W) (hl : W.heap[l]? = some o) (ho : o.isCells = false) : DnT b g c A ws n (W.putObj l o') := ⟨h.1.put hl ho, h.2.put hl ho⟩
def DnK (b g c : Nat) (A : Option Addr) (ws : List Int) (n : Int) (W W' : World) : Prop := DnT b g c A ws n W → DnT b g c A ws n W'

open Go.Shelf
theorem DnK.of {b g c : Nat} {A : Option Addr} {ws : List Int} {n : Int} {W X Y : World} (h : DnT b g c A ws n W) (hb : Below W.heap.size X Y) : DnK b g c A ws n X Y := fun ⟨⟨p1, p2, p3, p4⟩, p5⟩ =>
  ⟨⟨(hb.cell (World.block_lt_of_cell? W _ h.1.hb)).trans p1, (hb.cell (World.block_lt_of_cell? W _ h.1.h0)).trans p2, (hb.cell (World.block_lt_of_cell? W _ h.1.h1)).trans p3, fun j v hv => by
    obtain ⟨ad, e, hc⟩ := p4 j v hv
    obtain ⟨ad2, e2, hc2⟩ := h.1.hr j v hv
    rw [e] at e2; cases e2
    exact ⟨ad, e, (hb.cell (World.block_lt_of_cell? W _ hc2)).trans hc⟩⟩, fun j hj => (hb.cell (World.block_lt_of_cell? W _ (h.2 j hj))).trans (p5 j hj)⟩
def DnN (b : Nat) (W : World) : Prop := W.cell? ⟨b, 0, none⟩ = some (.pointer none)
theorem DnN.below {b : Nat} {W W' : World} (h : DnN b W) (hb : Below W.heap.size W W') : DnN b W' := (hb.cell (World.block_lt_of_cell? W _ h)).trans h
def DnNK (b : Nat) (W W' : World) : Prop := DnN b W → DnN b W'
theorem DnNK.of {b : Nat} {W X Y : World} (h : DnN b W) (hb : Below W.heap.size X Y) : DnNK b X Y := fun p => (hb.cell (World.block_lt_of_cell? W _ h)).trans p

set_option maxRecDepth 100000 in
set_option maxHeartbeats 1000000 in
theorem apS {Kp : World → World → Prop} {S_ Sp : List Int → Prop} {N : Nat} (gf : Nat) (lb : Array Value) (W : World) (hen : Enters Try.prog gf) (hseq : SeqStopsK Fence.wide 0 Try.prog gf lb encI Kp S_ Sp N W) (hKt : ∀ {X Y Z : World}, Kp X Y → Kp Y Z → Kp X Z) (hKp : ∀ X Y, Below W.heap.size X Y → Kp X Y) (hN : N ≤ 1000000000) : Calls Try.prog 84 #[.slice none 0 0, .func (.func gf) #[] lb] W fun e W' => ∃ A c xs, S_ xs ∧ e = .returned (.slice A xs.length c) ∧ St W (owns []) W' [row A xs.length c (ci .i64 xs) 3 1] := by
  have HS : St W (owns []) W [] := St.start W _
  refine calls_enterM [.slice none 0 0, .func (.func gf) #[] lb, undef, undef, undef, undef, undef, undef, undef, undef, undef, undef, undef] Try.func84 rfl (by kernel_rfl) ?_
  refine wp_seq ?_
  refine wp_region_lit ?_
  refine kb HS [.slice none 0 0] 22 (fun g => .pointer (some ⟨g, 0, none⟩)) (by kernel_rfl) (by kernel_rfl) ?_
  intro g1 W2 H_
  replace HS : St W (owns []) W2 [blk g1 [.slice none 0 0] 22] := H_
  clear H_
  refine ql (.slice none 0 0) (by kernel_rfl) (by kernel_rfl) ?_
  refine wpList_nil ?_
  refine x_then ?_
  refine wp_seq ?_
  refine wp_seq ?_
  refine wp_region_lit ?_
  refine ql (.func (.func gf) #[] lb) (by kernel_rfl) (by kernel_rfl) ?_
  refine wpList_nil ?_
  refine x_then ?_
  refine wp_block ?_
  replace HS : St W (owns []) W2 [row none 0 0 (ci .i64 ([])) 3 1, blk g1 [.slice none 0 0] 22] := (HS.nilRow 3 1).cast_ (by kernel_rfl)
  replace HS : St W (owns []) W2 [blk g1 [.slice none 0 0] 22, row none 0 0 (ci .i64 ([])) 3 1] := HS.perm (perm_ [1, 0] (by kernel_rfl) rfl)
  have HSb := HS
  refine rangeF (gf := gf) (lb := lb) (m := 0) (by kernel_rfl) hen (seq_later hseq (HS.kept.below owns_nil)) hKt (fun X l_ o_ o2_ hl_ _ _ _ => hKp _ _ (below_put (Nat.le_trans HSb.le hl_)))
    (fun pre w' => ∃ (A : Option Addr) (c : Nat), St W (owns []) w' [blk g1 [.slice A pre.length c] 22, row A pre.length c (ci .i64 pre) 3 1])
    (fun c pre w' => False)
    (fun s_ A_ B_ r_ h_ hg_ hr_ => by obtain ⟨A, c, HS⟩ := h_; exact ⟨A, c, HS.grown (cel_cons blk_cel (cel_cons row_cel cel_nil)) HSb.le hg_ hr_⟩)
    (fun _ _ _ _ _ h_ _ _ => h_)
    (by exact ⟨none, 0, HS⟩)
    (fun x => [.slice none 0 0, .func (.func gf) #[] lb, .pointer (some ⟨g1, 0, none⟩), undef, .slice none 0 0, .int .i64 x, .func (.func gf) #[] lb, .int .i64 x, undef, undef, undef, undef, undef]) ?_ ?_ ?_ ?_
  · intro l x W3 K_ hK_
    refine wp_region_litR (by kernel_rfl) (fun ⟨_, _, h_⟩ => (h_ : False)) ?_
    refine ql (.int .i64 x) (by kernel_rfl) (by kernel_rfl) ?_
    refine wpList_nil ?_
    refine x_then ?_
    exact kk_ (congrArg Fr (by kernel_rfl)) hK_
  · intro l pre x W3 hI_ hlt
    obtain ⟨A, c, HS⟩ := hI_
    have HO := HS
    replace HS := HO.root
    refine wpIn_block ?_
    refine wp_region_litR (by kernel_rfl) (fun ⟨_, _, h_⟩ => (h_ : False)) ?_
    refine ql (.slice A pre.length c) (by kernel_rfl) (R_load (p := ⟨g1, 0, none⟩) (by kernel_rfl) (by kernel_rfl) (by kernel_rfl) (HS.cell (i := 0) (j := 0) rfl rfl)) ?_
    refine ql (.int .i64 x) (by kernel_rfl) (by kernel_rfl) ?_
    refine kl HS 1 [.int .i64 x] 3 1 (by kernel_rfl) (by kernel_rfl) rfl (by decide) ?_
    intro g4 W5 H_
    replace HS : St W3 (owns [blk g1 [.slice A pre.length c] 22, row A pre.length c (ci .i64 pre) 3 1]) W5 [row (some ⟨g4, 0, none⟩) 1 1 (ci .i64 ([x])) 3 1, blk g1 [.slice A pre.length c] 22, row A pre.length c (ci .i64 pre) 3 1] := H_.cast_ (by kernel_rfl)
    clear H_
    obtain ⟨xs9, xs9_⟩ : ∃ z_ : List Int, z_ = pre ++ ([x]) := ⟨_, rfl⟩
    have xs9l : xs9.length = pre.length + 1 := by rw [xs9_, List.length_append] <;> (try simp only [List.length_cons, List.length_nil]) <;> omega
    refine ka1 HS 2 rfl (Src.of_row HS (i := 0) rfl ci_one) [.int .i64 0] 8 xs9.length (ci .i64 xs9) (by omega) (by rw [xs9_, ci_app]) (by kernel_rfl) (by kernel_rfl) (by kernel_rfl) Try.underlying22 (by kernel_rfl) (by kernel_rfl) (by kernel_rfl) (by kernel_rfl) (by decide) (by omega) (by omega) ?_
    intro A6 c7 W8 H_
    replace HS : St W3 (owns [blk g1 [.slice A pre.length c] 22, row A pre.length c (ci .i64 pre) 3 1]) W8 [row (some ⟨g4, 0, none⟩) 1 1 (ci .i64 ([x])) 3 1, blk g1 [.slice A pre.length c] 22, row A6 xs9.length c7 (ci .i64 xs9) 3 1] := H_
    clear H_
    refine ks (v := .slice A6 xs9.length c7) HS 1 rfl (0) [.slice A6 xs9.length c7] (by kernel_rfl) (by kernel_rfl) (by kernel_rfl) (by kernel_rfl) (by kernel_rfl) (one_ (by kernel_rfl)) (Nat.le_of_ble_eq_true rfl) rfl ?_
    intro W10 H_
    replace HS : St W3 (owns [blk g1 [.slice A pre.length c] 22, row A pre.length c (ci .i64 pre) 3 1]) W10 [row (some ⟨g4, 0, none⟩) 1 1 (ci .i64 ([x])) 3 1, blk g1 [.slice A6 xs9.length c7] 22, row A6 xs9.length c7 (ci .i64 xs9) 3 1] := H_
    clear H_
    refine wpList_nil ?_
    refine x_inb ?_
    replace HS := HS.drop1
    subst xs9_
    have HF := HO.unroot HS
    exact og_n (HS.keepsFrom HO (cel_cons blk_cel (cel_cons row_cel cel_nil)) _) (hKp _ _ (HO.belowR HS)) ⟨A6, c7, HF⟩
  · intro D xs W3 hD hS hI_ hdf
    obtain ⟨A, c, HS⟩ := hI_
    replace HS := HS.addD (cel_cons blk_cel (cel_cons row_cel cel_nil)) (Nat.le_trans HSb.le hD) hdf
    refine x_inb ?_
    refine x_then ?_
    refine wp_seq ?_
    refine wp_region_lit ?_
    refine ql (.slice A xs.length c) (by kernel_rfl) (R_load (p := ⟨g1, 0, none⟩) (by kernel_rfl) (by kernel_rfl) (by kernel_rfl) (HS.cell (i := 1) (j := 0) rfl rfl)) ?_
    refine ql (.slice A xs.length c) (by kernel_rfl) (by kernel_rfl) ?_
    refine wpList_nil ?_
    refine x_then ?_
    refine wp_ret ?_
    refine retD_ HS ?_
    clear HS
    intro W11 HS
    refine ⟨.slice A xs.length c, by kernel_rfl, ?_⟩
    replace HS := HS.drop1
    exact ⟨A, c, xs, hS, rfl, HS⟩
  · intro D c pre W3 hD hSp hIx_ hdf
    exact hIx_.elim

set_option maxRecDepth 100000 in
set_option maxHeartbeats 1000000 in
theorem colS {Kp : World → World → Prop} {S_ Sp : List Int → Prop} {N : Nat} (gf : Nat) (lb : Array Value) (W : World) (hen : Enters Try.prog gf) (hseq : SeqStopsK Fence.wide 0 Try.prog gf lb encI Kp S_ Sp N W) (hKt : ∀ {X Y Z : World}, Kp X Y → Kp Y Z → Kp X Z) (hKp : ∀ X Y, Below W.heap.size X Y → Kp X Y) (hN : N ≤ 1000000000) : Calls Try.prog 61 #[.func (.func gf) #[] lb] W fun e W' => ∃ A c xs, S_ xs ∧ e = .returned (.slice A xs.length c) ∧ St W (owns []) W' [row A xs.length c (ci .i64 xs) 3 1] := by
  have HS : St W (owns []) W [] := St.start W _
  refine calls_enter [.func (.func gf) #[] lb, undef, undef, undef, undef] Try.func61 rfl (by kernel_rfl) ?_
  refine wp_seq ?_
  refine wp_region_lit ?_
  refine ql (.slice none 0 0) (by kernel_rfl) (by kernel_rfl) ?_
  refine wpList_nil ?_
  refine x_then ?_
  refine wp_seq ?_
  refine wp_region_lit ?_
  refine ql (.func (.func gf) #[] lb) (by kernel_rfl) (by kernel_rfl) ?_
  refine qc (f := 84) (args := #[.slice none 0 0, .func (.func gf) #[] lb]) (by kernel_rfl) (R_call #[.slice none 0 0, .func (.func gf) #[] lb] Try.func84 (by kernel_rfl) (by kernel_rfl) (by kernel_rfl)) ?_
  refine (apS gf lb _ hen hseq hKt hKp hN).mono ?_
  rintro e W1 ⟨A8, c8, xs8, hS8, rfl, H_⟩
  refine ⟨_, rfl, ?_⟩
  replace HS : St W (owns []) W1 [row A8 xs8.length c8 (ci .i64 xs8) 3 1] := HS.join (F := []) (G := [row A8 xs8.length c8 (ci .i64 xs8) 3 1]) H_
  clear H_
  refine ql (.slice A8 xs8.length c8) (by kernel_rfl) (by kernel_rfl) ?_
  refine wpList_nil ?_
  refine x_then ?_
  refine wp_ret ?_
  refine ret_ (.slice A8 xs8.length c8) (by kernel_rfl) ?_
  exact ⟨A8, c8, xs8, hS8, rfl, HS⟩

open Go.Shelf

set_option maxRecDepth 100000 in
set_option maxHeartbeats 1000000 in
theorem r3has (A : Option Addr) (c : Nat) (L : List Int) (n : Int) (i : Int) (W : World) (hr : Rd W A (ci .i64 L)) (hl : L.length ≤ 100000) : Calls Try.prog 64 #[.agg #[.int .i64 n, .slice A L.length c], .int .i64 i] W fun e W' => e = .returned (.bool (decide (i ∈ L))) ∧ St W (owns []) W' [] := by
  have HS : St W (owns []) W [] := St.start W _
  refine calls_enter [.agg #[.int .i64 n, .slice A L.length c], .int .i64 i, undef, undef, undef, undef, undef, undef, undef, undef, undef, undef, undef, undef, undef, undef, undef, undef, undef, undef] Try.func64 rfl (by kernel_rfl) ?_
  refine wp_seq ?_
  refine wp_region_lit ?_
  refine kb HS [.int .i64 n, .slice A L.length c] 43 (fun g => .pointer (some ⟨g, 0, none⟩)) (by kernel_rfl) (by kernel_rfl) ?_
  intro g1 W2 H_
  replace HS : St W (owns []) W2 [blk g1 [.int .i64 n, .slice A L.length c] 43] := H_
  clear H_
  refine ql (.bool false) (by kernel_rfl) (by kernel_rfl) ?_
  refine wpList_nil ?_
  refine x_then ?_
  refine wp_seq ?_
  refine wp_seq ?_
  refine wp_region_lit ?_
  refine ql (.int .i64 0) (by kernel_rfl) (by kernel_rfl) ?_
  refine wpList_nil ?_
  refine x_then ?_
  refine wp_block ?_
  refine wp_loop_ghost (fun kq a' w' => ∃ (J3 : Nat → Value) (k : Int) , a' = Fr [.agg #[.int .i64 n, .slice A L.length c], .int .i64 i, .pointer (some ⟨g1, 0, none⟩), undef, (J3 4), .int .i64 k, (J3 6), (J3 7), (J3 8), (J3 9), (J3 10), (J3 11), (J3 12), (J3 13), (J3 14), (J3 15), (J3 16), (J3 17), (J3 18), (J3 19)] ∧ kq = (L.length - (k).toNat) ∧ (0 ≤ k) ∧ (k ≤ L.length) ∧ (i ∉ L.take (k).toNat) ∧ St W (owns []) w' [blk g1 [.int .i64 n, .slice A L.length c] 43]) (L.length - ((0 : Int)).toNat) ⟨(fun k_ : Nat => List.getD [.agg #[.int .i64 n, .slice A L.length c], .int .i64 i, .pointer (some ⟨g1, 0, none⟩), undef, .bool false, .int .i64 0, undef, undef, undef, undef, undef, undef, undef, undef, undef, undef, undef, undef, undef, undef] k_ undef), (0 : Int), congrArg Fr (by kernel_rfl), rfl, by omega, by omega, (by simp), HS⟩ ?_
  clear HS
  intro kq4 a' W5 hrel
  obtain ⟨J3, k, rfl, hk, k0, k1, hn, HS⟩ := hrel
  refine wp_seq ?_
  refine wp_seq ?_
  refine wp_region_lit ?_
  refine ql (.int .i64 k) (by kernel_rfl) (by kernel_rfl) ?_
  refine ql (.pointer (some ⟨g1, 1, none⟩)) (by kernel_rfl) (by kernel_rfl) ?_
  refine ql (.slice A L.length c) (by kernel_rfl) (R_load (p := ⟨g1, 1, none⟩) (by kernel_rfl) (by kernel_rfl) (by kernel_rfl) (HS.cell (i := 0) (j := 1) rfl rfl)) ?_
  refine ql (.int .i64 (L.length : Int)) (by kernel_rfl) (by kernel_rfl) ?_
  by_cases hc6 : k < (L.length : Int)
  · skip
    refine ql (.bool true) (by kernel_rfl) (R_bool (p := k < (L.length : Int)) (by kernel_rfl) (hc6)) ?_
    refine wpList_nil ?_
    refine x_then ?_
    refine wp_cond_true (by kernel_rfl) ?_
    refine wp_skip ?_
    refine x_then ?_
    refine wp_seq ?_
    refine wp_block ?_
    refine wp_seq ?_
    refine wp_region_lit ?_
    refine ql (.pointer (some ⟨g1, 1, none⟩)) (by kernel_rfl) (by kernel_rfl) ?_
    refine ql (.slice A L.length c) (by kernel_rfl) (R_load (p := ⟨g1, 1, none⟩) (by kernel_rfl) (by kernel_rfl) (by kernel_rfl) (HS.cell (i := 0) (j := 1) rfl rfl)) ?_
    refine ql (.int .i64 k) (by kernel_rfl) (by kernel_rfl) ?_
    obtain ⟨ad7, rfl⟩ := Rd.isSome_ hr (by rw [ci_len]; omega)
    refine ql (.pointer (some (ad7.add k.toNat))) (by kernel_rfl) (R_indexA1 (k := .i64) (p := ad7) (n := L.length) (c := c) (i := k) (by kernel_rfl) (by kernel_rfl) Try.underlying22 (by kernel_rfl) (by omega) (by omega)) ?_
    refine ql (.int .i64 (rdI L k)) (by kernel_rfl) (R_load (p := ad7.add k.toNat) (by kernel_rfl) (by kernel_rfl) (by kernel_rfl) (HS.old0 (hr.at_ (ci_rd (i := k) (by omega) (by omega))))) ?_
    refine ql (.int .i64 i) (by kernel_rfl) (by kernel_rfl) ?_
    by_cases hc8 : (rdI L k) = i
    · skip
      refine ql (.bool true) (by kernel_rfl) (R_beq (b := (rdI L k == i)) (by kernel_rfl) (beq_t (hc8))) ?_
      refine wpList_nil ?_
      refine x_then ?_
      refine wp_cond_true (by kernel_rfl) ?_
      refine wp_seq ?_
      refine wp_region_lit ?_
      refine ql (.bool true) (by kernel_rfl) (by kernel_rfl) ?_
      refine wpList_nil ?_
      refine x_then ?_
      refine wp_ret ?_
      refine x_inbR ?_
      refine x_thenR ?_
      refine x_thenR ?_
      refine x_inbR ?_
      refine x_thenR ?_
      refine ret_ (.bool true) (by kernel_rfl) ?_
      replace HS := HS.drop1
      exact ⟨by rw [decide_eq_true (hc8 ▸ mem_rd k0 (by omega))], HS⟩
    · skip
      refine ql (.bool false) (by kernel_rfl) (R_beq (b := (rdI L k == i)) (by kernel_rfl) (beq_f (hc8))) ?_
      refine wpList_nil ?_
      refine x_then ?_
      refine wp_cond_false (by kernel_rfl) ?_
      refine wp_skip ?_
      refine x_inb ?_
      refine x_then ?_
      refine wp_region_lit ?_
      refine ql (.int .i64 k) (by kernel_rfl) (by kernel_rfl) ?_
      refine ql (.int .i64 (k + 1)) (by kernel_rfl) (R_int (by kernel_rfl) (w64 (by omega))) ?_
      refine ql (.int .i64 (k + 1)) (by kernel_rfl) (by kernel_rfl) ?_
      refine wpList_nil ?_
      refine x_then ?_
      exact ⟨L.length - (k + 1).toNat, by omega, (fun k_ : Nat => List.getD [.agg #[.int .i64 n, .slice (some ad7) L.length c], .int .i64 i, .pointer (some ⟨g1, 0, none⟩), undef, (J3 4), .int .i64 (k + 1), .int .i64 k, .pointer (some ⟨g1, 1, none⟩), .slice (some ad7) L.length c, .int .i64 (L.length : Int), .bool true, .int .i64 k, .int .i64 (k + 1), .pointer (some ⟨g1, 1, none⟩), .slice (some ad7) L.length c, .int .i64 k, .pointer (some (ad7.add k.toNat)), .int .i64 (rdI L k), .int .i64 i, .bool false] k_ undef), k + 1, congrArg Fr (by kernel_rfl), rfl, by omega, by omega, no_take hn k0 (by omega) hc8, HS⟩
  · skip
    refine ql (.bool false) (by kernel_rfl) (R_nbool (p := k < (L.length : Int)) (by kernel_rfl) (hc6)) ?_
    refine wpList_nil ?_
    refine x_then ?_
    refine wp_cond_false (by kernel_rfl) ?_
    refine wp_exit ?_
    refine x_thenE ?_
    refine x_thenE ?_
    refine x_hit ?_
    refine x_then ?_
    refine wp_seq ?_
    refine wp_region_lit ?_
    refine ql (.bool false) (by kernel_rfl) (by kernel_rfl) ?_
    refine wpList_nil ?_
    refine x_then ?_
    refine wp_ret ?_
    refine ret_ (.bool false) (by kernel_rfl) ?_
    replace HS := HS.drop1
    rw [show k.toNat = L.length by omega, List.take_length] at hn
    exact ⟨by rw [decide_eq_false hn], HS⟩

set_option maxRecDepth 100000 in
set_option maxHeartbeats 1000000 in
theorem r1same (A B : Option Addr) (c c2 : Nat) (L M : List Int) (W : World) (hr : Rd W A (ci .i64 L)) (hl : L.length ≤ 100000) (hs : Rd W B (ci .i64 M)) (hl2 : M.length ≤ 100000) : Calls Try.prog 25 #[.slice A L.length c, .slice B M.length c2] W fun e W' => e = .returned (.bool (decide (L = M))) ∧ St W (owns []) W' [] := by
  have HS : St W (owns []) W [] := St.start W _
  refine calls_enter [.slice A L.length c, .slice B M.length c2, undef, undef, undef, undef, undef, undef, undef, undef, undef, undef, undef, undef, undef, undef, undef, undef, undef, undef, undef, undef, undef, undef, undef, undef] Try.func25 rfl (by kernel_rfl) ?_
  refine wp_seq ?_
  refine wp_region_lit ?_
  refine ql (.bool false) (by kernel_rfl) (by kernel_rfl) ?_
  refine wpList_nil ?_
  refine x_then ?_
  refine wp_seq ?_
  refine wp_seq ?_
  refine wp_region_lit ?_
  refine ql (.slice A L.length c) (by kernel_rfl) (by kernel_rfl) ?_
  refine ql (.int .i64 (L.length : Int)) (by kernel_rfl) (by kernel_rfl) ?_
  refine ql (.slice B M.length c2) (by kernel_rfl) (by kernel_rfl) ?_
  refine ql (.int .i64 (M.length : Int)) (by kernel_rfl) (by kernel_rfl) ?_
  by_cases hc1 : (L.length : Int) = (M.length : Int)
  · skip
    refine ql (.bool false) (by kernel_rfl) (R_beq (b := ((L.length : Int) != (M.length : Int))) (by kernel_rfl) (bne_f (hc1))) ?_
    refine wpList_nil ?_
    refine x_then ?_
    refine wp_cond_false (by kernel_rfl) ?_
    refine wp_skip ?_
    refine x_then ?_
    refine wp_seq ?_
    refine wp_seq ?_
    refine wp_region_lit ?_
    refine ql (.int .i64 0) (by kernel_rfl) (by kernel_rfl) ?_
    refine wpList_nil ?_
    refine x_then ?_
    refine wp_block ?_
    refine wp_loop_ghost (fun kq a' w' => ∃ (J2 : Nat → Value) (k : Int) , a' = Fr [.slice A L.length c, .slice B M.length c2, undef, undef, (J2 4), .int .i64 k, .slice A L.length c, .int .i64 (L.length : Int), .slice B M.length c2, .int .i64 (M.length : Int), .bool false, (J2 11), (J2 12), (J2 13), (J2 14), (J2 15), (J2 16), (J2 17), (J2 18), (J2 19), (J2 20), (J2 21), (J2 22), (J2 23), (J2 24), (J2 25)] ∧ kq = (L.length - (k).toNat) ∧ (0 ≤ k) ∧ (k ≤ L.length) ∧ (eqTo L M k) ∧ St W (owns []) w' []) (L.length - ((0 : Int)).toNat) ⟨(fun k_ : Nat => List.getD [.slice A L.length c, .slice B M.length c2, undef, undef, .bool false, .int .i64 0, .slice A L.length c, .int .i64 (L.length : Int), .slice B M.length c2, .int .i64 (M.length : Int), .bool false, undef, undef, undef, undef, undef, undef, undef, undef, undef, undef, undef, undef, undef, undef, undef] k_ undef), (0 : Int), congrArg Fr (by kernel_rfl), rfl, by omega, by omega, eqTo_zero, HS⟩ ?_
    clear HS
    intro kq3 a' W4 hrel
    obtain ⟨J2, k, rfl, hk, k0, k1, he, HS⟩ := hrel
    refine wp_seq ?_
    refine wp_seq ?_
    refine wp_region_lit ?_
    refine ql (.int .i64 k) (by kernel_rfl) (by kernel_rfl) ?_
    refine ql (.slice A L.length c) (by kernel_rfl) (by kernel_rfl) ?_
    refine ql (.int .i64 (L.length : Int)) (by kernel_rfl) (by kernel_rfl) ?_
    by_cases hc5 : k < (L.length : Int)
    · skip
      refine ql (.bool true) (by kernel_rfl) (R_bool (p := k < (L.length : Int)) (by kernel_rfl) (hc5)) ?_
      refine wpList_nil ?_
      refine x_then ?_
      refine wp_cond_true (by kernel_rfl) ?_
      refine wp_skip ?_
      refine x_then ?_
      refine wp_seq ?_
      refine wp_block ?_
      refine wp_seq ?_
      refine rg_still HS 8 (by kernel_rfl) (by kernel_rfl) ?_
      intro W6 H_ HK_
      simp only [List.take_succ_cons, List.take_zero, List.drop_succ_cons, List.drop_zero]
      replace HS : St W (owns []) W6 [] := H_
      clear H_
      clear HK_
      refine qs (.slice A L.length c) (by kernel_rfl) (by kernel_rfl) ?_
      refine qs (.int .i64 k) (by kernel_rfl) (by kernel_rfl) ?_
      obtain ⟨ad7, rfl⟩ := Rd.isSome_ hr (by rw [ci_len]; omega)
      refine qs (.pointer (some (ad7.add k.toNat))) (by kernel_rfl) (R_indexA1 (k := .i64) (p := ad7) (n := L.length) (c := c) (i := k) (by kernel_rfl) (by kernel_rfl) Try.underlying22 (by kernel_rfl) (by omega) (by omega)) ?_
      refine qs (.int .i64 (rdI L k)) (by kernel_rfl) (R_load (p := ad7.add k.toNat) (by kernel_rfl) (by kernel_rfl) (by kernel_rfl) (HS.old0 (hr.at_ (ci_rd (i := k) (by omega) (by omega))))) ?_
      refine qs (.slice B M.length c2) (by kernel_rfl) (by kernel_rfl) ?_
      refine qs (.int .i64 k) (by kernel_rfl) (by kernel_rfl) ?_
      obtain ⟨ad8, rfl⟩ := Rd.isSome_ hs (by rw [ci_len]; omega)
      refine qs (.pointer (some (ad8.add k.toNat))) (by kernel_rfl) (R_indexA1 (k := .i64) (p := ad8) (n := M.length) (c := c2) (i := k) (by kernel_rfl) (by kernel_rfl) Try.underlying22 (by kernel_rfl) (by omega) (by omega)) ?_
      refine qs (.int .i64 (rdI M k)) (by kernel_rfl) (R_load (p := ad8.add k.toNat) (by kernel_rfl) (by kernel_rfl) (by kernel_rfl) (HS.old0 (hs.at_ (ci_rd (i := k) (by omega) (by omega))))) ?_
      refine wpStill_nil ?_
      by_cases hc9 : (rdI L k) = (rdI M k)
      · skip
        refine ql (.bool false) (by kernel_rfl) (R_beq (b := (rdI L k != rdI M k)) (by kernel_rfl) (bne_f (hc9))) ?_
        refine wpList_nil ?_
        refine x_then ?_
        refine wp_cond_false (by kernel_rfl) ?_
        refine wp_skip ?_
        refine x_inb ?_
        refine x_then ?_
        refine wp_region_lit ?_
        refine ql (.int .i64 k) (by kernel_rfl) (by kernel_rfl) ?_
        refine ql (.int .i64 (k + 1)) (by kernel_rfl) (R_int (by kernel_rfl) (w64 (by omega))) ?_
        refine ql (.int .i64 (k + 1)) (by kernel_rfl) (by kernel_rfl) ?_
        refine wpList_nil ?_
        refine x_then ?_
        exact ⟨L.length - (k + 1).toNat, by omega, (fun k_ : Nat => List.getD [.slice (some ad7) L.length c, .slice (some ad8) M.length c2, undef, undef, (J2 4), .int .i64 (k + 1), .slice (some ad7) L.length c, .int .i64 (L.length : Int), .slice (some ad8) M.length c2, .int .i64 (M.length : Int), .bool false, .int .i64 k, .slice (some ad7) L.length c, .int .i64 (L.length : Int), .bool true, .int .i64 k, .int .i64 (k + 1), .slice (some ad7) L.length c, .int .i64 k, .pointer (some (ad7.add k.toNat)), .int .i64 (rdI L k), .slice (some ad8) M.length c2, .int .i64 k, .pointer (some (ad8.add k.toNat)), .int .i64 (rdI M k), .bool false] k_ undef), k + 1, congrArg Fr (by kernel_rfl), rfl, by omega, by omega, eqTo_step he (by first | assumption | omega), HS⟩
      · skip
        refine ql (.bool true) (by kernel_rfl) (R_beq (b := (rdI L k != rdI M k)) (by kernel_rfl) (bne_t (hc9))) ?_
        refine wpList_nil ?_
        refine x_then ?_
        refine wp_cond_true (by kernel_rfl) ?_
        refine wp_seq ?_
        refine wp_region_lit ?_
        refine ql (.bool false) (by kernel_rfl) (by kernel_rfl) ?_
        refine wpList_nil ?_
        refine x_then ?_
        refine wp_ret ?_
        refine x_inbR ?_
        refine x_thenR ?_
        refine x_thenR ?_
        refine x_inbR ?_
        refine x_thenR ?_
        refine ret_ (.bool false) (by kernel_rfl) ?_
        exact ⟨by rw [decide_eq_false (by intro h_; subst h_; omega)], HS⟩
    · skip
      refine ql (.bool false) (by kernel_rfl) (R_nbool (p := k < (L.length : Int)) (by kernel_rfl) (hc5)) ?_
      refine wpList_nil ?_
      refine x_then ?_
      refine wp_cond_false (by kernel_rfl) ?_
      refine wp_exit ?_
      refine x_thenE ?_
      refine x_thenE ?_
      refine x_hit ?_
      refine x_then ?_
      refine wp_seq ?_
      refine wp_region_lit ?_
      refine ql (.bool true) (by kernel_rfl) (by kernel_rfl) ?_
      refine wpList_nil ?_
      refine x_then ?_
      refine wp_ret ?_
      refine ret_ (.bool true) (by kernel_rfl) ?_
      have hk9 : k = L.length := by omega
      rw [hk9] at he
      have hq := eqTo_all (by omega) he
      exact ⟨by rw [decide_eq_true hq], HS⟩
  · skip
    refine ql (.bool true) (by kernel_rfl) (R_beq (b := ((L.length : Int) != (M.length : Int))) (by kernel_rfl) (bne_t (hc1))) ?_
    refine wpList_nil ?_
    refine x_then ?_
    refine wp_cond_true (by kernel_rfl) ?_
    refine wp_seq ?_
    refine wp_region_lit ?_
    refine ql (.bool false) (by kernel_rfl) (by kernel_rfl) ?_
    refine wpList_nil ?_
    refine x_then ?_
    refine wp_ret ?_
    refine x_thenR ?_
    refine ret_ (.bool false) (by kernel_rfl) ?_
    exact ⟨by rw [decide_eq_false (by intro h_; subst h_; omega)], HS⟩

set_option maxRecDepth 100000 in
set_option maxHeartbeats 1000000 in
theorem r3add (A : Option Addr) (c : Nat) (L : List Int) (n : Int) (i : Int) (W : World) (M_ : Nat → Prop) (HS : St W M_ W [row A L.length c (ci .i64 L) 3 1]) (hl : L.length ≤ 100000) : Calls Try.prog 60 #[.agg #[.int .i64 n, .slice A L.length c], .int .i64 i] W fun e W' => ∃ A' c', e = .returned (.tuple #[.agg #[.int .i64 n, .slice A' (addL n L i).length c'], .bool (addB n L i)]) ∧ St W M_ W' [row A' ((addL n L i).length) c' (ci .i64 (addL n L i)) 3 1] := by
  refine calls_enter ((.agg #[.int .i64 n, .slice A L.length c]) :: (.int .i64 i) :: undef :: undef :: undef :: undef :: undef :: undef :: undef :: undef :: undef :: undef :: undef :: undef :: undef :: undef :: undef :: undef :: undef :: undef :: undef :: undef :: undef :: undef :: undef :: undef :: undef :: undef :: undef :: undef :: undef :: undef :: undef :: undef :: undef :: undef :: undef :: undef :: undef :: undef :: undef :: undef :: undef :: undef :: undef :: undef :: undef :: undef :: undef :: undef :: undef :: undef :: undef :: undef :: undef :: undef :: undef :: undef :: undef :: undef :: undef :: undef :: undef :: undef :: []) Try.func60 rfl (by kernel_rfl) ?_
  refine wp_seq ?_
  refine wp_region_lit ?_
  refine kb HS [.int .i64 n, .slice A L.length c] 43 (fun g => .pointer (some ⟨g, 0, none⟩)) (by kernel_rfl) (by kernel_rfl) ?_
  intro g1 W2 H_
  replace HS : St W M_ W2 [blk g1 [.int .i64 n, .slice A L.length c] 43, row A L.length c (ci .i64 L) 3 1] := H_
  clear H_
  refine kb HS [.int .i64 0, .slice none 0 0] 43 (fun g => .pointer (some ⟨g, 0, none⟩)) (by kernel_rfl) (by kernel_rfl) ?_
  intro g3 W4 H_
  replace HS : St W M_ W4 [blk g3 [.int .i64 0, .slice none 0 0] 43, blk g1 [.int .i64 n, .slice A L.length c] 43, row A L.length c (ci .i64 L) 3 1] := H_
  clear H_
  refine ql (.bool false) (by kernel_rfl) (by kernel_rfl) ?_
  refine wpList_nil ?_
  refine x_then ?_
  refine wp_seq ?_
  refine wp_seq ?_
  refine wp_region_lit ?_
  refine ql (.int .i64 i) (by kernel_rfl) (by kernel_rfl) ?_
  by_cases hc5 : i < (0 : Int)
  · skip
    refine ql (.bool true) (by kernel_rfl) (R_bool (p := i < (0 : Int)) (by kernel_rfl) (hc5)) ?_
    refine ql (.bool true) (by kernel_rfl) (by kernel_rfl) ?_
    refine qln (by kernel_rfl) ?_
    refine qln (by kernel_rfl) ?_
    refine qln (by kernel_rfl) ?_
    refine qln (by kernel_rfl) ?_
    refine ql (.bool true) (by kernel_rfl) (by kernel_rfl) ?_
    refine ql (.bool true) (by kernel_rfl) (by kernel_rfl) ?_
    refine qln (by kernel_rfl) ?_
    refine qln (by kernel_rfl) ?_
    refine qln (by kernel_rfl) ?_
    refine ql (.bool true) (by kernel_rfl) (by kernel_rfl) ?_
    refine wpList_nil ?_
    refine x_then ?_
    refine wp_cond_true (by kernel_rfl) ?_
    refine wp_seq ?_
    refine wp_region_lit ?_
    refine ql (.agg #[.int .i64 n, .slice A L.length c]) (by kernel_rfl) (R_loadN (p := ⟨g1, 0, none⟩) [.int .i64 n, .slice A L.length c] (by kernel_rfl) (by kernel_rfl) (by kernel_rfl) (by kernel_rfl) (two_at (HS.cell (i := 1) (j := 0) rfl rfl) (HS.cell (i := 1) (j := 1) rfl rfl))) ?_
    refine ks (v := .agg #[.int .i64 n, .slice A L.length c]) HS 0 rfl (0) [.int .i64 n, .slice A L.length c] (by kernel_rfl) (by kernel_rfl) (by kernel_rfl) (by kernel_rfl) (by kernel_rfl) (one_ (by kernel_rfl)) (Nat.le_of_ble_eq_true rfl) rfl ?_
    intro W6 H_
    replace HS : St W M_ W6 [blk g3 [.int .i64 n, .slice A L.length c] 43, blk g1 [.int .i64 n, .slice A L.length c] 43, row A L.length c (ci .i64 L) 3 1] := H_
    clear H_
    refine ql (.bool false) (by kernel_rfl) (by kernel_rfl) ?_
    refine wpList_nil ?_
    refine x_then ?_
    refine wp_ret ?_
    refine x_thenR ?_
    refine ret_ (.tuple #[.agg #[.int .i64 n, .slice A L.length c], .bool false]) (res2 rfl (oneRes_agg (p := ⟨g3, 0, none⟩) [.int .i64 n, .slice A L.length c] (by kernel_rfl) (by kernel_rfl) (by kernel_rfl) (by kernel_rfl) (HS.cellsN (i := 0) rfl)) (oneRes_t (by kernel_rfl))) ?_
    replace HS := HS.drop1
    replace HS := HS.drop1
    have ha := addL_out (n := n) (i := i) (L := L) (by omega)
    exact ⟨A, c, by rw [ha.1, ha.2], by rw [ha.1]; exact HS⟩
  · skip
    refine ql (.bool false) (by kernel_rfl) (R_nbool (p := i < (0 : Int)) (by kernel_rfl) (hc5)) ?_
    refine ql (.bool false) (by kernel_rfl) (by kernel_rfl) ?_
    refine ql (.int .i64 i) (by kernel_rfl) (by kernel_rfl) ?_
    refine ql (.pointer (some ⟨g1, 0, none⟩)) (by kernel_rfl) (by kernel_rfl) ?_
    refine ql (.int .i64 n) (by kernel_rfl) (R_load (p := ⟨g1, 0, none⟩) (by kernel_rfl) (by kernel_rfl) (by kernel_rfl) (HS.cell (i := 1) (j := 0) rfl rfl)) ?_
    by_cases hc7 : i ≥ n
    · skip
      refine ql (.bool true) (by kernel_rfl) (R_bool (p := i ≥ n) (by kernel_rfl) (hc7)) ?_
      refine ql (.bool true) (by kernel_rfl) (by kernel_rfl) ?_
      refine ql (.bool true) (by kernel_rfl) (by kernel_rfl) ?_
      refine qln (by kernel_rfl) ?_
      refine qln (by kernel_rfl) ?_
      refine qln (by kernel_rfl) ?_
      refine ql (.bool true) (by kernel_rfl) (by kernel_rfl) ?_
      refine wpList_nil ?_
      refine x_then ?_
      refine wp_cond_true (by kernel_rfl) ?_
      refine wp_seq ?_
      refine wp_region_lit ?_
      refine ql (.agg #[.int .i64 n, .slice A L.length c]) (by kernel_rfl) (R_loadN (p := ⟨g1, 0, none⟩) [.int .i64 n, .slice A L.length c] (by kernel_rfl) (by kernel_rfl) (by kernel_rfl) (by kernel_rfl) (two_at (HS.cell (i := 1) (j := 0) rfl rfl) (HS.cell (i := 1) (j := 1) rfl rfl))) ?_
      refine ks (v := .agg #[.int .i64 n, .slice A L.length c]) HS 0 rfl (0) [.int .i64 n, .slice A L.length c] (by kernel_rfl) (by kernel_rfl) (by kernel_rfl) (by kernel_rfl) (by kernel_rfl) (one_ (by kernel_rfl)) (Nat.le_of_ble_eq_true rfl) rfl ?_
      intro W8 H_
      replace HS : St W M_ W8 [blk g3 [.int .i64 n, .slice A L.length c] 43, blk g1 [.int .i64 n, .slice A L.length c] 43, row A L.length c (ci .i64 L) 3 1] := H_
      clear H_
      refine ql (.bool false) (by kernel_rfl) (by kernel_rfl) ?_
      refine wpList_nil ?_
      refine x_then ?_
      refine wp_ret ?_
      refine x_thenR ?_
      refine ret_ (.tuple #[.agg #[.int .i64 n, .slice A L.length c], .bool false]) (res2 rfl (oneRes_agg (p := ⟨g3, 0, none⟩) [.int .i64 n, .slice A L.length c] (by kernel_rfl) (by kernel_rfl) (by kernel_rfl) (by kernel_rfl) (HS.cellsN (i := 0) rfl)) (oneRes_t (by kernel_rfl))) ?_
      replace HS := HS.drop1
      replace HS := HS.drop1
      have ha := addL_out (n := n) (i := i) (L := L) (by omega)
      exact ⟨A, c, by rw [ha.1, ha.2], by rw [ha.1]; exact HS⟩
    · skip
      refine ql (.bool false) (by kernel_rfl) (R_nbool (p := i ≥ n) (by kernel_rfl) (hc7)) ?_
      refine ql (.bool false) (by kernel_rfl) (by kernel_rfl) ?_
      refine ql (.bool false) (by kernel_rfl) (by kernel_rfl) ?_
      refine ql (.agg #[.int .i64 n, .slice A L.length c]) (by kernel_rfl) (R_loadN (p := ⟨g1, 0, none⟩) [.int .i64 n, .slice A L.length c] (by kernel_rfl) (by kernel_rfl) (by kernel_rfl) (by kernel_rfl) (two_at (HS.cell (i := 1) (j := 0) rfl rfl) (HS.cell (i := 1) (j := 1) rfl rfl))) ?_
      refine ql (.int .i64 i) (by kernel_rfl) (by kernel_rfl) ?_
      refine qc (f := 64) (args := #[.agg #[.int .i64 n, .slice A L.length c], .int .i64 i]) (by kernel_rfl) (R_call #[.agg #[.int .i64 n, .slice A L.length c], .int .i64 i] Try.func64 (by kernel_rfl) (by kernel_rfl) (by kernel_rfl)) ?_
      by_cases hv : i ∈ L
      · skip
        have hdx : decide (i ∈ L) = true := decide_eq_true hv
        refine (r3has A c L n i _ (Rd.row HS (i := 2) rfl) hl).mono ?_
        rintro e W9 ⟨rfl, H_⟩
        rw [hdx]
        refine ⟨_, rfl, ?_⟩
        replace HS : St W M_ W9 [blk g3 [.int .i64 0, .slice none 0 0] 43, blk g1 [.int .i64 n, .slice A L.length c] 43, row A L.length c (ci .i64 L) 3 1] := HS.join (F := []) (G := []) H_
        clear H_
        refine ql (.bool true) (by kernel_rfl) (by kernel_rfl) ?_
        refine wpList_nil ?_
        refine x_then ?_
        refine wp_cond_true (by kernel_rfl) ?_
        refine wp_seq ?_
        refine wp_region_lit ?_
        refine ql (.agg #[.int .i64 n, .slice A L.length c]) (by kernel_rfl) (R_loadN (p := ⟨g1, 0, none⟩) [.int .i64 n, .slice A L.length c] (by kernel_rfl) (by kernel_rfl) (by kernel_rfl) (by kernel_rfl) (two_at (HS.cell (i := 1) (j := 0) rfl rfl) (HS.cell (i := 1) (j := 1) rfl rfl))) ?_
        refine ks (v := .agg #[.int .i64 n, .slice A L.length c]) HS 0 rfl (0) [.int .i64 n, .slice A L.length c] (by kernel_rfl) (by kernel_rfl) (by kernel_rfl) (by kernel_rfl) (by kernel_rfl) (one_ (by kernel_rfl)) (Nat.le_of_ble_eq_true rfl) rfl ?_
        intro W10 H_
        replace HS : St W M_ W10 [blk g3 [.int .i64 n, .slice A L.length c] 43, blk g1 [.int .i64 n, .slice A L.length c] 43, row A L.length c (ci .i64 L) 3 1] := H_
        clear H_
        refine ql (.bool false) (by kernel_rfl) (by kernel_rfl) ?_
        refine wpList_nil ?_
        refine x_then ?_
        refine wp_ret ?_
        refine x_thenR ?_
        refine ret_ (.tuple #[.agg #[.int .i64 n, .slice A L.length c], .bool false]) (res2 rfl (oneRes_agg (p := ⟨g3, 0, none⟩) [.int .i64 n, .slice A L.length c] (by kernel_rfl) (by kernel_rfl) (by kernel_rfl) (by kernel_rfl) (HS.cellsN (i := 0) rfl)) (oneRes_t (by kernel_rfl))) ?_
        replace HS := HS.drop1
        replace HS := HS.drop1
        have ha := addL_out (n := n) (i := i) (L := L) (.inr (.inr hv))
        exact ⟨A, c, by rw [ha.1, ha.2], by rw [ha.1]; exact HS⟩
      · skip
        have hdx : decide (i ∈ L) = false := decide_eq_false hv
        refine (r3has A c L n i _ (Rd.row HS (i := 2) rfl) hl).mono ?_
        rintro e W11 ⟨rfl, H_⟩
        rw [hdx]
        refine ⟨_, rfl, ?_⟩
        replace HS : St W M_ W11 [blk g3 [.int .i64 0, .slice none 0 0] 43, blk g1 [.int .i64 n, .slice A L.length c] 43, row A L.length c (ci .i64 L) 3 1] := HS.join (F := []) (G := []) H_
        clear H_
        refine ql (.bool false) (by kernel_rfl) (by kernel_rfl) ?_
        refine wpList_nil ?_
        refine x_then ?_
        refine wp_cond_false (by kernel_rfl) ?_
        refine wp_skip ?_
        refine x_then ?_
        refine wp_seq ?_
        refine wp_region_lit ?_
        refine kl HS 0 [] 3 1 (by kernel_rfl) (by kernel_rfl) rfl (by decide) ?_
        intro g12 W13 H_
        replace HS : St W M_ W13 [row (some ⟨g12, 0, none⟩) 0 0 (ci .i64 ([])) 3 1, blk g3 [.int .i64 0, .slice none 0 0] 43, blk g1 [.int .i64 n, .slice A L.length c] 43, row A L.length c (ci .i64 L) 3 1] := H_.cast_ (by kernel_rfl)
        clear H_
        refine ql (.slice (some ⟨g12, 0, none⟩) 0 0) (by kernel_rfl) (by kernel_rfl) ?_
        refine wpList_nil ?_
        refine x_then ?_
        refine wp_seq ?_
        refine wp_region_lit ?_
        refine ql (.bool false) (by kernel_rfl) (by kernel_rfl) ?_
        refine wpList_nil ?_
        refine x_then ?_
        refine wp_seq ?_
        refine wp_seq ?_
        refine wp_region_lit ?_
        refine ql (.int .i64 0) (by kernel_rfl) (by kernel_rfl) ?_
        refine wpList_nil ?_
        refine x_then ?_
        refine wp_block ?_
        refine wp_loop_ghost (fun kq a' w' => ∃ (J14 : Nat → Value) (k : Int) (put : Bool) (out : List Int) (A6 : Option Addr) (c6 : Nat) , a' = Fr ((.agg #[.int .i64 n, .slice A L.length c]) :: (.int .i64 i) :: (.pointer (some ⟨g1, 0, none⟩)) :: undef :: (.pointer (some ⟨g3, 0, none⟩)) :: (.bool false) :: (.slice A6 out.length c6) :: (.bool put) :: (.int .i64 k) :: (.int .i64 i) :: (.bool false) :: (.bool false) :: (.int .i64 i) :: (.pointer (some ⟨g1, 0, none⟩)) :: (.int .i64 n) :: (.bool false) :: (.bool false) :: (.bool false) :: (.agg #[.int .i64 n, .slice A L.length c]) :: (.int .i64 i) :: (.bool false) :: (.bool false) :: undef :: (.slice (some ⟨g12, 0, none⟩) 0 0) :: ((J14 24)) :: ((J14 25)) :: ((J14 26)) :: ((J14 27)) :: ((J14 28)) :: ((J14 29)) :: ((J14 30)) :: ((J14 31)) :: ((J14 32)) :: ((J14 33)) :: ((J14 34)) :: ((J14 35)) :: ((J14 36)) :: ((J14 37)) :: ((J14 38)) :: ((J14 39)) :: ((J14 40)) :: ((J14 41)) :: ((J14 42)) :: ((J14 43)) :: ((J14 44)) :: ((J14 45)) :: ((J14 46)) :: ((J14 47)) :: ((J14 48)) :: ((J14 49)) :: ((J14 50)) :: ((J14 51)) :: ((J14 52)) :: ((J14 53)) :: undef :: undef :: undef :: undef :: undef :: undef :: undef :: undef :: undef :: undef :: []) ∧ kq = (L.length - (k).toNat) ∧ (0 ≤ k) ∧ (k ≤ L.length) ∧ (InsP i L out k put) ∧ St W M_ w' [row A6 out.length c6 (ci .i64 out) 3 1, blk g3 [.int .i64 0, .slice none 0 0] 43, blk g1 [.int .i64 n, .slice A L.length c] 43, row A L.length c (ci .i64 L) 3 1]) (L.length - ((0 : Int)).toNat) ⟨(fun k_ : Nat => List.getD ((.agg #[.int .i64 n, .slice A L.length c]) :: (.int .i64 i) :: (.pointer (some ⟨g1, 0, none⟩)) :: undef :: (.pointer (some ⟨g3, 0, none⟩)) :: (.bool false) :: (.slice (some ⟨g12, 0, none⟩) 0 0) :: (.bool false) :: (.int .i64 0) :: (.int .i64 i) :: (.bool false) :: (.bool false) :: (.int .i64 i) :: (.pointer (some ⟨g1, 0, none⟩)) :: (.int .i64 n) :: (.bool false) :: (.bool false) :: (.bool false) :: (.agg #[.int .i64 n, .slice A L.length c]) :: (.int .i64 i) :: (.bool false) :: (.bool false) :: undef :: (.slice (some ⟨g12, 0, none⟩) 0 0) :: undef :: undef :: undef :: undef :: undef :: undef :: undef :: undef :: undef :: undef :: undef :: undef :: undef :: undef :: undef :: undef :: undef :: undef :: undef :: undef :: undef :: undef :: undef :: undef :: undef :: undef :: undef :: undef :: undef :: undef :: undef :: undef :: undef :: undef :: undef :: undef :: undef :: undef :: undef :: undef :: []) k_ undef), (0 : Int), false, [], some ⟨g12, 0, none⟩, 0, congrArg Fr (by kernel_rfl), rfl, by omega, by omega, insP_start i L, HS⟩ ?_
        clear HS
        intro kq15 a' W16 hrel
        obtain ⟨J14, k, put, out, A6, c6, rfl, hk, k0, k1, hP, HS⟩ := hrel
        have hol : (out.length : Int) ≤ k + 1 := by have h_ := hP.2; split at h_ <;> omega
        refine wp_seq ?_
        refine wp_seq ?_
        refine wp_region_lit ?_
        refine ql (.int .i64 k) (by kernel_rfl) (by kernel_rfl) ?_
        refine ql (.pointer (some ⟨g1, 1, none⟩)) (by kernel_rfl) (by kernel_rfl) ?_
        refine ql (.slice A L.length c) (by kernel_rfl) (R_load (p := ⟨g1, 1, none⟩) (by kernel_rfl) (by kernel_rfl) (by kernel_rfl) (HS.cell (i := 2) (j := 1) rfl rfl)) ?_
        refine ql (.int .i64 (L.length : Int)) (by kernel_rfl) (by kernel_rfl) ?_
        by_cases hc17 : k < (L.length : Int)
        · skip
          refine ql (.bool true) (by kernel_rfl) (R_bool (p := k < (L.length : Int)) (by kernel_rfl) (hc17)) ?_
          refine wpList_nil ?_
          refine x_then ?_
          refine wp_cond_true (by kernel_rfl) ?_
          refine wp_skip ?_
          refine x_then ?_
          refine wp_seq ?_
          refine wp_block ?_
          refine wp_seq ?_
          refine wp_seq ?_
          refine wp_region_lit ?_
          refine ql (.bool put) (by kernel_rfl) (by kernel_rfl) ?_
          by_cases hb18 : put = true
          · skip
            subst hb18
            refine ql (.bool false) (by kernel_rfl) (by kernel_rfl) ?_
            refine ql (.bool false) (by kernel_rfl) (by kernel_rfl) ?_
            refine qln (by kernel_rfl) ?_
            refine qln (by kernel_rfl) ?_
            refine qln (by kernel_rfl) ?_
            refine qln (by kernel_rfl) ?_
            refine qln (by kernel_rfl) ?_
            refine qln (by kernel_rfl) ?_
            refine qln (by kernel_rfl) ?_
            refine ql (.bool false) (by kernel_rfl) (by kernel_rfl) ?_
            refine wpList_nil ?_
            refine x_then ?_
            refine wp_cond_false (by kernel_rfl) ?_
            refine wp_skip ?_
            refine x_then ?_
            refine wp_region_lit ?_
            refine ql (.slice A6 out.length c6) (by kernel_rfl) (by kernel_rfl) ?_
            refine ql (.pointer (some ⟨g1, 1, none⟩)) (by kernel_rfl) (by kernel_rfl) ?_
            refine ql (.slice A L.length c) (by kernel_rfl) (R_load (p := ⟨g1, 1, none⟩) (by kernel_rfl) (by kernel_rfl) (by kernel_rfl) (HS.cell (i := 2) (j := 1) rfl rfl)) ?_
            refine ql (.int .i64 k) (by kernel_rfl) (by kernel_rfl) ?_
            obtain ⟨g19, rfl⟩ := St.rsome HS (i := 3) rfl (by omega)
            refine ql (.pointer (some ⟨g19, k.toNat, none⟩)) (by kernel_rfl) (R_index1 (k := .i64) (g := g19) (n := L.length) (c := c) (i := k) (by kernel_rfl) (by kernel_rfl) Try.underlying22 (by kernel_rfl) (by omega) (by omega)) ?_
            refine ql (.int .i64 (rdI L k)) (by kernel_rfl) (R_load (p := ⟨g19, k.toNat, none⟩) (by kernel_rfl) (by kernel_rfl) (by kernel_rfl) (HS.rcell (i := 3) rfl (ci_rd (i := k) (by omega) (by omega)))) ?_
            refine kl HS 1 [.int .i64 (rdI L k)] 3 1 (by kernel_rfl) (by kernel_rfl) rfl (by decide) ?_
            intro g20 W21 H_
            replace HS : St W M_ W21 [row (some ⟨g20, 0, none⟩) 1 1 (ci .i64 ([rdI L k])) 3 1, row A6 out.length c6 (ci .i64 out) 3 1, blk g3 [.int .i64 0, .slice none 0 0] 43, blk g1 [.int .i64 n, .slice (some ⟨g19, 0, none⟩) L.length c] 43, row (some ⟨g19, 0, none⟩) L.length c (ci .i64 L) 3 1] := H_.cast_ (by kernel_rfl)
            clear H_
            obtain ⟨xs25, xs25_⟩ : ∃ z_ : List Int, z_ = out ++ ([rdI L k]) := ⟨_, rfl⟩
            have xs25l : xs25.length = out.length + 1 := by rw [xs25_, List.length_append] <;> (try simp only [List.length_cons, List.length_nil]) <;> omega
            refine ka1 HS 1 rfl (Src.of_row HS (i := 0) rfl ci_one) [.int .i64 0] 8 xs25.length (ci .i64 xs25) (by omega) (by rw [xs25_, ci_app]) (by kernel_rfl) (by kernel_rfl) (by kernel_rfl) Try.underlying22 (by kernel_rfl) (by kernel_rfl) (by kernel_rfl) (by kernel_rfl) (by decide) (by omega) (by omega) ?_
            intro A22 c23 W24 H_
            replace HS : St W M_ W24 [row (some ⟨g20, 0, none⟩) 1 1 (ci .i64 ([rdI L k])) 3 1, row A22 xs25.length c23 (ci .i64 xs25) 3 1, blk g3 [.int .i64 0, .slice none 0 0] 43, blk g1 [.int .i64 n, .slice (some ⟨g19, 0, none⟩) L.length c] 43, row (some ⟨g19, 0, none⟩) L.length c (ci .i64 L) 3 1] := H_
            clear H_
            refine ql (.slice A22 xs25.length c23) (by kernel_rfl) (by kernel_rfl) ?_
            refine wpList_nil ?_
            refine x_inb ?_
            refine x_then ?_
            refine wp_region_lit ?_
            refine ql (.int .i64 k) (by kernel_rfl) (by kernel_rfl) ?_
            refine ql (.int .i64 (k + 1)) (by kernel_rfl) (R_int (by kernel_rfl) (w64 (by omega))) ?_
            refine ql (.int .i64 (k + 1)) (by kernel_rfl) (by kernel_rfl) ?_
            refine wpList_nil ?_
            replace HS := HS.drop1
            refine x_then ?_
            exact ⟨L.length - (k + 1).toNat, by omega, (fun k_ : Nat => List.getD ((.agg #[.int .i64 n, .slice (some ⟨g19, 0, none⟩) L.length c]) :: (.int .i64 i) :: (.pointer (some ⟨g1, 0, none⟩)) :: undef :: (.pointer (some ⟨g3, 0, none⟩)) :: (.bool false) :: (.slice A22 xs25.length c23) :: (.bool true) :: (.int .i64 (k + 1)) :: (.int .i64 i) :: (.bool false) :: (.bool false) :: (.int .i64 i) :: (.pointer (some ⟨g1, 0, none⟩)) :: (.int .i64 n) :: (.bool false) :: (.bool false) :: (.bool false) :: (.agg #[.int .i64 n, .slice (some ⟨g19, 0, none⟩) L.length c]) :: (.int .i64 i) :: (.bool false) :: (.bool false) :: undef :: (.slice (some ⟨g12, 0, none⟩) 0 0) :: (.int .i64 k) :: (.pointer (some ⟨g1, 1, none⟩)) :: (.slice (some ⟨g19, 0, none⟩) L.length c) :: (.int .i64 (L.length : Int)) :: (.bool true) :: (.int .i64 k) :: (.int .i64 (k + 1)) :: (.bool true) :: (.bool false) :: (.bool false) :: undef :: undef :: undef :: undef :: undef :: undef :: undef :: (.bool false) :: ((J14 42)) :: ((J14 43)) :: ((J14 44)) :: ((J14 45)) :: (.slice A6 out.length c6) :: (.pointer (some ⟨g1, 1, none⟩)) :: (.slice (some ⟨g19, 0, none⟩) L.length c) :: (.int .i64 k) :: (.pointer (some ⟨g19, k.toNat, none⟩)) :: (.int .i64 (rdI L k)) :: (.slice (some ⟨g20, 0, none⟩) 1 1) :: (.slice A22 xs25.length c23) :: undef :: undef :: undef :: undef :: undef :: undef :: undef :: undef :: undef :: undef :: []) k_ undef), k + 1, true, xs25, A22, c23, congrArg Fr (by kernel_rfl), rfl, by omega, by omega, (by rw [xs25_]; exact insP_put hP k0 (by omega)), HS⟩
          · skip
            replace hb18 := Bool.eq_false_iff.2 hb18
            subst hb18
            refine ql (.bool true) (by kernel_rfl) (by kernel_rfl) ?_
            refine ql (.bool true) (by kernel_rfl) (by kernel_rfl) ?_
            refine ql (.pointer (some ⟨g1, 1, none⟩)) (by kernel_rfl) (by kernel_rfl) ?_
            refine ql (.slice A L.length c) (by kernel_rfl) (R_load (p := ⟨g1, 1, none⟩) (by kernel_rfl) (by kernel_rfl) (by kernel_rfl) (HS.cell (i := 2) (j := 1) rfl rfl)) ?_
            refine ql (.int .i64 k) (by kernel_rfl) (by kernel_rfl) ?_
            obtain ⟨g26, rfl⟩ := St.rsome HS (i := 3) rfl (by omega)
            refine ql (.pointer (some ⟨g26, k.toNat, none⟩)) (by kernel_rfl) (R_index1 (k := .i64) (g := g26) (n := L.length) (c := c) (i := k) (by kernel_rfl) (by kernel_rfl) Try.underlying22 (by kernel_rfl) (by omega) (by omega)) ?_
            refine ql (.int .i64 (rdI L k)) (by kernel_rfl) (R_load (p := ⟨g26, k.toNat, none⟩) (by kernel_rfl) (by kernel_rfl) (by kernel_rfl) (HS.rcell (i := 3) rfl (ci_rd (i := k) (by omega) (by omega)))) ?_
            refine ql (.int .i64 i) (by kernel_rfl) (by kernel_rfl) ?_
            by_cases hc27 : (rdI L k) > i
            · skip
              refine ql (.bool true) (by kernel_rfl) (R_bool (p := (rdI L k) > i) (by kernel_rfl) (hc27)) ?_
              refine ql (.bool true) (by kernel_rfl) (by kernel_rfl) ?_
              refine wpList_nil ?_
              refine x_then ?_
              refine wp_cond_true (by kernel_rfl) ?_
              refine wp_seq ?_
              refine wp_region_lit ?_
              refine ql (.slice A6 out.length c6) (by kernel_rfl) (by kernel_rfl) ?_
              refine ql (.int .i64 i) (by kernel_rfl) (by kernel_rfl) ?_
              refine kl HS 1 [.int .i64 i] 3 1 (by kernel_rfl) (by kernel_rfl) rfl (by decide) ?_
              intro g28 W29 H_
              replace HS : St W M_ W29 [row (some ⟨g28, 0, none⟩) 1 1 (ci .i64 ([i])) 3 1, row A6 out.length c6 (ci .i64 out) 3 1, blk g3 [.int .i64 0, .slice none 0 0] 43, blk g1 [.int .i64 n, .slice (some ⟨g26, 0, none⟩) L.length c] 43, row (some ⟨g26, 0, none⟩) L.length c (ci .i64 L) 3 1] := H_.cast_ (by kernel_rfl)
              clear H_
              obtain ⟨xs33, xs33_⟩ : ∃ z_ : List Int, z_ = out ++ ([i]) := ⟨_, rfl⟩
              have xs33l : xs33.length = out.length + 1 := by rw [xs33_, List.length_append] <;> (try simp only [List.length_cons, List.length_nil]) <;> omega
              refine ka1 HS 1 rfl (Src.of_row HS (i := 0) rfl ci_one) [.int .i64 0] 8 xs33.length (ci .i64 xs33) (by omega) (by rw [xs33_, ci_app]) (by kernel_rfl) (by kernel_rfl) (by kernel_rfl) Try.underlying22 (by kernel_rfl) (by kernel_rfl) (by kernel_rfl) (by kernel_rfl) (by decide) (by omega) (by omega) ?_
              intro A30 c31 W32 H_
              replace HS : St W M_ W32 [row (some ⟨g28, 0, none⟩) 1 1 (ci .i64 ([i])) 3 1, row A30 xs33.length c31 (ci .i64 xs33) 3 1, blk g3 [.int .i64 0, .slice none 0 0] 43, blk g1 [.int .i64 n, .slice (some ⟨g26, 0, none⟩) L.length c] 43, row (some ⟨g26, 0, none⟩) L.length c (ci .i64 L) 3 1] := H_
              clear H_
              refine ql (.slice A30 xs33.length c31) (by kernel_rfl) (by kernel_rfl) ?_
              refine wpList_nil ?_
              refine x_then ?_
              refine wp_region_lit ?_
              refine ql (.bool true) (by kernel_rfl) (by kernel_rfl) ?_
              refine wpList_nil ?_
              refine x_then ?_
              refine wp_region_lit ?_
              refine ql (.slice A30 xs33.length c31) (by kernel_rfl) (by kernel_rfl) ?_
              refine ql (.pointer (some ⟨g1, 1, none⟩)) (by kernel_rfl) (by kernel_rfl) ?_
              refine ql (.slice (some ⟨g26, 0, none⟩) L.length c) (by kernel_rfl) (R_load (p := ⟨g1, 1, none⟩) (by kernel_rfl) (by kernel_rfl) (by kernel_rfl) (HS.cell (i := 3) (j := 1) rfl rfl)) ?_
              refine ql (.int .i64 k) (by kernel_rfl) (by kernel_rfl) ?_
              refine ql (.pointer (some ⟨g26, k.toNat, none⟩)) (by kernel_rfl) (R_index1 (k := .i64) (g := g26) (n := L.length) (c := c) (i := k) (by kernel_rfl) (by kernel_rfl) Try.underlying22 (by kernel_rfl) (by omega) (by omega)) ?_
              refine ql (.int .i64 (rdI L k)) (by kernel_rfl) (R_load (p := ⟨g26, k.toNat, none⟩) (by kernel_rfl) (by kernel_rfl) (by kernel_rfl) (HS.rcell (i := 4) rfl (ci_rd (i := k) (by omega) (by omega)))) ?_
              refine kl HS 1 [.int .i64 (rdI L k)] 3 1 (by kernel_rfl) (by kernel_rfl) rfl (by decide) ?_
              intro g34 W35 H_
              replace HS : St W M_ W35 [row (some ⟨g34, 0, none⟩) 1 1 (ci .i64 ([rdI L k])) 3 1, row (some ⟨g28, 0, none⟩) 1 1 (ci .i64 ([i])) 3 1, row A30 xs33.length c31 (ci .i64 xs33) 3 1, blk g3 [.int .i64 0, .slice none 0 0] 43, blk g1 [.int .i64 n, .slice (some ⟨g26, 0, none⟩) L.length c] 43, row (some ⟨g26, 0, none⟩) L.length c (ci .i64 L) 3 1] := H_.cast_ (by kernel_rfl)
              clear H_
              obtain ⟨xs39, xs39_⟩ : ∃ z_ : List Int, z_ = xs33 ++ ([rdI L k]) := ⟨_, rfl⟩
              have xs39l : xs39.length = xs33.length + 1 := by rw [xs39_, List.length_append] <;> (try simp only [List.length_cons, List.length_nil]) <;> omega
              refine ka1 HS 2 rfl (Src.of_row HS (i := 0) rfl ci_one) [.int .i64 0] 8 xs39.length (ci .i64 xs39) (by omega) (by rw [xs39_, ci_app]) (by kernel_rfl) (by kernel_rfl) (by kernel_rfl) Try.underlying22 (by kernel_rfl) (by kernel_rfl) (by kernel_rfl) (by kernel_rfl) (by decide) (by omega) (by omega) ?_
              intro A36 c37 W38 H_
              replace HS : St W M_ W38 [row (some ⟨g34, 0, none⟩) 1 1 (ci .i64 ([rdI L k])) 3 1, row (some ⟨g28, 0, none⟩) 1 1 (ci .i64 ([i])) 3 1, row A36 xs39.length c37 (ci .i64 xs39) 3 1, blk g3 [.int .i64 0, .slice none 0 0] 43, blk g1 [.int .i64 n, .slice (some ⟨g26, 0, none⟩) L.length c] 43, row (some ⟨g26, 0, none⟩) L.length c (ci .i64 L) 3 1] := H_
              clear H_
              refine ql (.slice A36 xs39.length c37) (by kernel_rfl) (by kernel_rfl) ?_
              refine wpList_nil ?_
              refine x_inb ?_
              refine x_then ?_
              refine wp_region_lit ?_
              refine ql (.int .i64 k) (by kernel_rfl) (by kernel_rfl) ?_
              refine ql (.int .i64 (k + 1)) (by kernel_rfl) (R_int (by kernel_rfl) (w64 (by omega))) ?_
              refine ql (.int .i64 (k + 1)) (by kernel_rfl) (by kernel_rfl) ?_
              refine wpList_nil ?_
              replace HS := HS.drop1
              replace HS := HS.drop1
              refine x_then ?_
              exact ⟨L.length - (k + 1).toNat, by omega, (fun k_ : Nat => List.getD ((.agg #[.int .i64 n, .slice (some ⟨g26, 0, none⟩) L.length c]) :: (.int .i64 i) :: (.pointer (some ⟨g1, 0, none⟩)) :: undef :: (.pointer (some ⟨g3, 0, none⟩)) :: (.bool false) :: (.slice A36 xs39.length c37) :: (.bool true) :: (.int .i64 (k + 1)) :: (.int .i64 i) :: (.bool false) :: (.bool false) :: (.int .i64 i) :: (.pointer (some ⟨g1, 0, none⟩)) :: (.int .i64 n) :: (.bool false) :: (.bool false) :: (.bool false) :: (.agg #[.int .i64 n, .slice (some ⟨g26, 0, none⟩) L.length c]) :: (.int .i64 i) :: (.bool false) :: (.bool false) :: undef :: (.slice (some ⟨g12, 0, none⟩) 0 0) :: (.int .i64 k) :: (.pointer (some ⟨g1, 1, none⟩)) :: (.slice (some ⟨g26, 0, none⟩) L.length c) :: (.int .i64 (L.length : Int)) :: (.bool true) :: (.int .i64 k) :: (.int .i64 (k + 1)) :: (.bool false) :: (.bool true) :: (.bool true) :: (.pointer (some ⟨g1, 1, none⟩)) :: (.slice (some ⟨g26, 0, none⟩) L.length c) :: (.int .i64 k) :: (.pointer (some ⟨g26, k.toNat, none⟩)) :: (.int .i64 (rdI L k)) :: (.int .i64 i) :: (.bool true) :: (.bool true) :: (.slice A6 out.length c6) :: (.int .i64 i) :: (.slice (some ⟨g28, 0, none⟩) 1 1) :: (.slice A30 xs33.length c31) :: (.slice A30 xs33.length c31) :: (.pointer (some ⟨g1, 1, none⟩)) :: (.slice (some ⟨g26, 0, none⟩) L.length c) :: (.int .i64 k) :: (.pointer (some ⟨g26, k.toNat, none⟩)) :: (.int .i64 (rdI L k)) :: (.slice (some ⟨g34, 0, none⟩) 1 1) :: (.slice A36 xs39.length c37) :: undef :: undef :: undef :: undef :: undef :: undef :: undef :: undef :: undef :: undef :: []) k_ undef), k + 1, true, xs39, A36, c37, congrArg Fr (by kernel_rfl), rfl, by omega, by omega, (by rw [xs39_, xs33_]; exact insP_gt hP k0 (by omega) hc27), HS⟩
            · skip
              refine ql (.bool false) (by kernel_rfl) (R_nbool (p := (rdI L k) > i) (by kernel_rfl) (hc27)) ?_
              refine ql (.bool false) (by kernel_rfl) (by kernel_rfl) ?_
              refine wpList_nil ?_
              refine x_then ?_
              refine wp_cond_false (by kernel_rfl) ?_
              refine wp_skip ?_
              refine x_then ?_
              refine wp_region_lit ?_
              refine ql (.slice A6 out.length c6) (by kernel_rfl) (by kernel_rfl) ?_
              refine ql (.pointer (some ⟨g1, 1, none⟩)) (by kernel_rfl) (by kernel_rfl) ?_
              refine ql (.slice (some ⟨g26, 0, none⟩) L.length c) (by kernel_rfl) (R_load (p := ⟨g1, 1, none⟩) (by kernel_rfl) (by kernel_rfl) (by kernel_rfl) (HS.cell (i := 2) (j := 1) rfl rfl)) ?_
              refine ql (.int .i64 k) (by kernel_rfl) (by kernel_rfl) ?_
              refine ql (.pointer (some ⟨g26, k.toNat, none⟩)) (by kernel_rfl) (R_index1 (k := .i64) (g := g26) (n := L.length) (c := c) (i := k) (by kernel_rfl) (by kernel_rfl) Try.underlying22 (by kernel_rfl) (by omega) (by omega)) ?_
              refine ql (.int .i64 (rdI L k)) (by kernel_rfl) (R_load (p := ⟨g26, k.toNat, none⟩) (by kernel_rfl) (by kernel_rfl) (by kernel_rfl) (HS.rcell (i := 3) rfl (ci_rd (i := k) (by omega) (by omega)))) ?_
              refine kl HS 1 [.int .i64 (rdI L k)] 3 1 (by kernel_rfl) (by kernel_rfl) rfl (by decide) ?_
              intro g40 W41 H_
              replace HS : St W M_ W41 [row (some ⟨g40, 0, none⟩) 1 1 (ci .i64 ([rdI L k])) 3 1, row A6 out.length c6 (ci .i64 out) 3 1, blk g3 [.int .i64 0, .slice none 0 0] 43, blk g1 [.int .i64 n, .slice (some ⟨g26, 0, none⟩) L.length c] 43, row (some ⟨g26, 0, none⟩) L.length c (ci .i64 L) 3 1] := H_.cast_ (by kernel_rfl)
              clear H_
              obtain ⟨xs45, xs45_⟩ : ∃ z_ : List Int, z_ = out ++ ([rdI L k]) := ⟨_, rfl⟩
              have xs45l : xs45.length = out.length + 1 := by rw [xs45_, List.length_append] <;> (try simp only [List.length_cons, List.length_nil]) <;> omega
              refine ka1 HS 1 rfl (Src.of_row HS (i := 0) rfl ci_one) [.int .i64 0] 8 xs45.length (ci .i64 xs45) (by omega) (by rw [xs45_, ci_app]) (by kernel_rfl) (by kernel_rfl) (by kernel_rfl) Try.underlying22 (by kernel_rfl) (by kernel_rfl) (by kernel_rfl) (by kernel_rfl) (by decide) (by omega) (by omega) ?_
              intro A42 c43 W44 H_
              replace HS : St W M_ W44 [row (some ⟨g40, 0, none⟩) 1 1 (ci .i64 ([rdI L k])) 3 1, row A42 xs45.length c43 (ci .i64 xs45) 3 1, blk g3 [.int .i64 0, .slice none 0 0] 43, blk g1 [.int .i64 n, .slice (some ⟨g26, 0, none⟩) L.length c] 43, row (some ⟨g26, 0, none⟩) L.length c (ci .i64 L) 3 1] := H_
              clear H_
              refine ql (.slice A42 xs45.length c43) (by kernel_rfl) (by kernel_rfl) ?_
              refine wpList_nil ?_
              refine x_inb ?_
              refine x_then ?_
              refine wp_region_lit ?_
              refine ql (.int .i64 k) (by kernel_rfl) (by kernel_rfl) ?_
              refine ql (.int .i64 (k + 1)) (by kernel_rfl) (R_int (by kernel_rfl) (w64 (by omega))) ?_
              refine ql (.int .i64 (k + 1)) (by kernel_rfl) (by kernel_rfl) ?_
              refine wpList_nil ?_
              replace HS := HS.drop1
              refine x_then ?_
              exact ⟨L.length - (k + 1).toNat, by omega, (fun k_ : Nat => List.getD ((.agg #[.int .i64 n, .slice (some ⟨g26, 0, none⟩) L.length c]) :: (.int .i64 i) :: (.pointer (some ⟨g1, 0, none⟩)) :: undef :: (.pointer (some ⟨g3, 0, none⟩)) :: (.bool false) :: (.slice A42 xs45.length c43) :: (.bool false) :: (.int .i64 (k + 1)) :: (.int .i64 i) :: (.bool false) :: (.bool false) :: (.int .i64 i) :: (.pointer (some ⟨g1, 0, none⟩)) :: (.int .i64 n) :: (.bool false) :: (.bool false) :: (.bool false) :: (.agg #[.int .i64 n, .slice (some ⟨g26, 0, none⟩) L.length c]) :: (.int .i64 i) :: (.bool false) :: (.bool false) :: undef :: (.slice (some ⟨g12, 0, none⟩) 0 0) :: (.int .i64 k) :: (.pointer (some ⟨g1, 1, none⟩)) :: (.slice (some ⟨g26, 0, none⟩) L.length c) :: (.int .i64 (L.length : Int)) :: (.bool true) :: (.int .i64 k) :: (.int .i64 (k + 1)) :: (.bool false) :: (.bool true) :: (.bool true) :: (.pointer (some ⟨g1, 1, none⟩)) :: (.slice (some ⟨g26, 0, none⟩) L.length c) :: (.int .i64 k) :: (.pointer (some ⟨g26, k.toNat, none⟩)) :: (.int .i64 (rdI L k)) :: (.int .i64 i) :: (.bool false) :: (.bool false) :: ((J14 42)) :: ((J14 43)) :: ((J14 44)) :: ((J14 45)) :: (.slice A6 out.length c6) :: (.pointer (some ⟨g1, 1, none⟩)) :: (.slice (some ⟨g26, 0, none⟩) L.length c) :: (.int .i64 k) :: (.pointer (some ⟨g26, k.toNat, none⟩)) :: (.int .i64 (rdI L k)) :: (.slice (some ⟨g40, 0, none⟩) 1 1) :: (.slice A42 xs45.length c43) :: undef :: undef :: undef :: undef :: undef :: undef :: undef :: undef :: undef :: undef :: []) k_ undef), k + 1, false, xs45, A42, c43, congrArg Fr (by kernel_rfl), rfl, by omega, by omega, (by rw [xs45_]; exact insP_le hP k0 (by omega) hc27), HS⟩
        · skip
          refine ql (.bool false) (by kernel_rfl) (R_nbool (p := k < (L.length : Int)) (by kernel_rfl) (hc17)) ?_
          refine wpList_nil ?_
          refine x_then ?_
          refine wp_cond_false (by kernel_rfl) ?_
          refine wp_exit ?_
          refine x_thenE ?_
          refine x_thenE ?_
          refine x_hit ?_
          refine x_then ?_
          refine wp_seq ?_
          refine wp_seq ?_
          refine wp_region_lit ?_
          refine ql (.bool put) (by kernel_rfl) (by kernel_rfl) ?_
          by_cases hb46 : put = true
          · skip
            subst hb46
            refine ql (.bool false) (by kernel_rfl) (by kernel_rfl) ?_
            refine wpList_nil ?_
            refine x_then ?_
            refine wp_cond_false (by kernel_rfl) ?_
            refine wp_skip ?_
            refine x_then ?_
            refine wp_seq ?_
            refine wp_region_lit ?_
            refine ql (.pointer (some ⟨g1, 0, none⟩)) (by kernel_rfl) (by kernel_rfl) ?_
            refine ql (.int .i64 n) (by kernel_rfl) (R_load (p := ⟨g1, 0, none⟩) (by kernel_rfl) (by kernel_rfl) (by kernel_rfl) (HS.cell (i := 2) (j := 0) rfl rfl)) ?_
            refine ql (.slice A6 out.length c6) (by kernel_rfl) (by kernel_rfl) ?_
            refine ql (.agg #[.int .i64 n, .slice A6 out.length c6]) (by kernel_rfl) (by kernel_rfl) ?_
            refine ks (v := .agg #[.int .i64 n, .slice A6 out.length c6]) HS 1 rfl (0) [.int .i64 n, .slice A6 out.length c6] (by kernel_rfl) (by kernel_rfl) (by kernel_rfl) (by kernel_rfl) (by kernel_rfl) (one_ (by kernel_rfl)) (Nat.le_of_ble_eq_true rfl) rfl ?_
            intro W47 H_
            replace HS : St W M_ W47 [row A6 out.length c6 (ci .i64 out) 3 1, blk g3 [.int .i64 n, .slice A6 out.length c6] 43, blk g1 [.int .i64 n, .slice A L.length c] 43, row A L.length c (ci .i64 L) 3 1] := H_
            clear H_
            refine ql (.bool true) (by kernel_rfl) (by kernel_rfl) ?_
            refine wpList_nil ?_
            refine x_then ?_
            refine wp_ret ?_
            refine ret_ (.tuple #[.agg #[.int .i64 n, .slice A6 out.length c6], .bool true]) (res2 rfl (oneRes_agg (p := ⟨g3, 0, none⟩) [.int .i64 n, .slice A6 out.length c6] (by kernel_rfl) (by kernel_rfl) (by kernel_rfl) (by kernel_rfl) (HS.cellsN (i := 1) rfl)) (oneRes_t (by kernel_rfl))) ?_
            replace HS : St W M_ W47 [row A6 out.length c6 (ci .i64 out) 3 1] := St.tail (F := [blk g3 [.int .i64 n, .slice A6 out.length c6] 43, blk g1 [.int .i64 n, .slice A L.length c] 43, row A L.length c (ci .i64 L) 3 1]) (HS.perm (perm_ [1, 2, 3, 0] (by kernel_rfl) rfl))
            have hk9 : k = L.length := by omega
            have hq : out = ins i L := insP_end hP hk9
            have ha := addL_in (n := n) (by omega) (by omega) hv
            rw [← hq] at ha
            exact ⟨_, _, by rw [ha.1, ha.2], by rw [ha.1]; exact HS⟩
          · skip
            replace hb46 := Bool.eq_false_iff.2 hb46
            subst hb46
            refine ql (.bool true) (by kernel_rfl) (by kernel_rfl) ?_
            refine wpList_nil ?_
            refine x_then ?_
            refine wp_cond_true (by kernel_rfl) ?_
            refine wp_region_lit ?_
            refine ql (.slice A6 out.length c6) (by kernel_rfl) (by kernel_rfl) ?_
            refine ql (.int .i64 i) (by kernel_rfl) (by kernel_rfl) ?_
            refine kl HS 1 [.int .i64 i] 3 1 (by kernel_rfl) (by kernel_rfl) rfl (by decide) ?_
            intro g48 W49 H_
            replace HS : St W M_ W49 [row (some ⟨g48, 0, none⟩) 1 1 (ci .i64 ([i])) 3 1, row A6 out.length c6 (ci .i64 out) 3 1, blk g3 [.int .i64 0, .slice none 0 0] 43, blk g1 [.int .i64 n, .slice A L.length c] 43, row A L.length c (ci .i64 L) 3 1] := H_.cast_ (by kernel_rfl)
            clear H_
            obtain ⟨xs53, xs53_⟩ : ∃ z_ : List Int, z_ = out ++ ([i]) := ⟨_, rfl⟩
            have xs53l : xs53.length = out.length + 1 := by rw [xs53_, List.length_append] <;> (try simp only [List.length_cons, List.length_nil]) <;> omega
            refine ka1 HS 1 rfl (Src.of_row HS (i := 0) rfl ci_one) [.int .i64 0] 8 xs53.length (ci .i64 xs53) (by omega) (by rw [xs53_, ci_app]) (by kernel_rfl) (by kernel_rfl) (by kernel_rfl) Try.underlying22 (by kernel_rfl) (by kernel_rfl) (by kernel_rfl) (by kernel_rfl) (by decide) (by omega) (by omega) ?_
            intro A50 c51 W52 H_
            replace HS : St W M_ W52 [row (some ⟨g48, 0, none⟩) 1 1 (ci .i64 ([i])) 3 1, row A50 xs53.length c51 (ci .i64 xs53) 3 1, blk g3 [.int .i64 0, .slice none 0 0] 43, blk g1 [.int .i64 n, .slice A L.length c] 43, row A L.length c (ci .i64 L) 3 1] := H_
            clear H_
            refine ql (.slice A50 xs53.length c51) (by kernel_rfl) (by kernel_rfl) ?_
            refine wpList_nil ?_
            refine x_then ?_
            refine wp_seq ?_
            refine wp_region_lit ?_
            refine ql (.pointer (some ⟨g1, 0, none⟩)) (by kernel_rfl) (by kernel_rfl) ?_
            refine ql (.int .i64 n) (by kernel_rfl) (R_load (p := ⟨g1, 0, none⟩) (by kernel_rfl) (by kernel_rfl) (by kernel_rfl) (HS.cell (i := 3) (j := 0) rfl rfl)) ?_
            refine ql (.slice A50 xs53.length c51) (by kernel_rfl) (by kernel_rfl) ?_
            refine ql (.agg #[.int .i64 n, .slice A50 xs53.length c51]) (by kernel_rfl) (by kernel_rfl) ?_
            refine ks (v := .agg #[.int .i64 n, .slice A50 xs53.length c51]) HS 2 rfl (0) [.int .i64 n, .slice A50 xs53.length c51] (by kernel_rfl) (by kernel_rfl) (by kernel_rfl) (by kernel_rfl) (by kernel_rfl) (one_ (by kernel_rfl)) (Nat.le_of_ble_eq_true rfl) rfl ?_
            intro W54 H_
            replace HS : St W M_ W54 [row (some ⟨g48, 0, none⟩) 1 1 (ci .i64 ([i])) 3 1, row A50 xs53.length c51 (ci .i64 xs53) 3 1, blk g3 [.int .i64 n, .slice A50 xs53.length c51] 43, blk g1 [.int .i64 n, .slice A L.length c] 43, row A L.length c (ci .i64 L) 3 1] := H_
            clear H_
            refine ql (.bool true) (by kernel_rfl) (by kernel_rfl) ?_
            refine wpList_nil ?_
            refine x_then ?_
            refine wp_ret ?_
            refine ret_ (.tuple #[.agg #[.int .i64 n, .slice A50 xs53.length c51], .bool true]) (res2 rfl (oneRes_agg (p := ⟨g3, 0, none⟩) [.int .i64 n, .slice A50 xs53.length c51] (by kernel_rfl) (by kernel_rfl) (by kernel_rfl) (by kernel_rfl) (HS.cellsN (i := 2) rfl)) (oneRes_t (by kernel_rfl))) ?_
            replace HS : St W M_ W54 [row A50 xs53.length c51 (ci .i64 xs53) 3 1] := St.tail (F := [row (some ⟨g48, 0, none⟩) 1 1 (ci .i64 ([i])) 3 1, blk g3 [.int .i64 n, .slice A50 xs53.length c51] 43, blk g1 [.int .i64 n, .slice A L.length c] 43, row A L.length c (ci .i64 L) 3 1]) (HS.perm (perm_ [0, 2, 3, 4, 1] (by kernel_rfl) rfl))
            have hk9 : k = L.length := by omega
            have hq : xs53 = ins i L := by rw [xs53_]; exact insP_end0 hP hk9
            have ha := addL_in (n := n) (by omega) (by omega) hv
            rw [← hq] at ha
            exact ⟨_, _, by rw [ha.1, ha.2], by rw [ha.1]; exact HS⟩

set_option maxRecDepth 100000 in
set_option maxHeartbeats 1000000 in
theorem r3del (A : Option Addr) (c : Nat) (L : List Int) (n : Int) (i : Int) (W : World) (M_ : Nat → Prop) (HS : St W M_ W [row A L.length c (ci .i64 L) 3 1]) (hl : L.length ≤ 100000) : Calls Try.prog 62 #[.agg #[.int .i64 n, .slice A L.length c], .int .i64 i] W fun e W' => ∃ A' c', e = .returned (.tuple #[.agg #[.int .i64 n, .slice A' (delL L i).length c'], .bool (delB L i)]) ∧ St W M_ W' [row A' ((delL L i).length) c' (ci .i64 (delL L i)) 3 1] := by
  refine calls_enter [.agg #[.int .i64 n, .slice A L.length c], .int .i64 i, undef, undef, undef, undef, undef, undef, undef, undef, undef, undef, undef, undef, undef, undef, undef, undef, undef, undef, undef, undef, undef, undef, undef, undef, undef, undef, undef, undef, undef, undef, undef, undef, undef, undef, undef, undef, undef, undef, undef] Try.func62 rfl (by kernel_rfl) ?_
  refine wp_seq ?_
  refine wp_region_lit ?_
  refine kb HS [.int .i64 n, .slice A L.length c] 43 (fun g => .pointer (some ⟨g, 0, none⟩)) (by kernel_rfl) (by kernel_rfl) ?_
  intro g1 W2 H_
  replace HS : St W M_ W2 [blk g1 [.int .i64 n, .slice A L.length c] 43, row A L.length c (ci .i64 L) 3 1] := H_
  clear H_
  refine kb HS [.int .i64 0, .slice none 0 0] 43 (fun g => .pointer (some ⟨g, 0, none⟩)) (by kernel_rfl) (by kernel_rfl) ?_
  intro g3 W4 H_
  replace HS : St W M_ W4 [blk g3 [.int .i64 0, .slice none 0 0] 43, blk g1 [.int .i64 n, .slice A L.length c] 43, row A L.length c (ci .i64 L) 3 1] := H_
  clear H_
  refine ql (.bool false) (by kernel_rfl) (by kernel_rfl) ?_
  refine wpList_nil ?_
  refine x_then ?_
  refine wp_seq ?_
  refine wp_region_lit ?_
  refine kl HS 0 [] 3 1 (by kernel_rfl) (by kernel_rfl) rfl (by decide) ?_
  intro g5 W6 H_
  replace HS : St W M_ W6 [row (some ⟨g5, 0, none⟩) 0 0 (ci .i64 ([])) 3 1, blk g3 [.int .i64 0, .slice none 0 0] 43, blk g1 [.int .i64 n, .slice A L.length c] 43, row A L.length c (ci .i64 L) 3 1] := H_.cast_ (by kernel_rfl)
  clear H_
  refine ql (.slice (some ⟨g5, 0, none⟩) 0 0) (by kernel_rfl) (by kernel_rfl) ?_
  refine wpList_nil ?_
  refine x_then ?_
  refine wp_seq ?_
  refine wp_seq ?_
  refine wp_region_lit ?_
  refine ql (.int .i64 0) (by kernel_rfl) (by kernel_rfl) ?_
  refine wpList_nil ?_
  refine x_then ?_
  refine wp_block ?_
  refine wp_loop_ghost (fun kq a' w' => ∃ (J7 : Nat → Value) (k : Int) (out : List Int) (A6 : Option Addr) (c6 : Nat) , a' = Fr [.agg #[.int .i64 n, .slice A L.length c], .int .i64 i, .pointer (some ⟨g1, 0, none⟩), undef, .pointer (some ⟨g3, 0, none⟩), .bool false, .slice A6 out.length c6, .int .i64 k, .slice (some ⟨g5, 0, none⟩) 0 0, (J7 9), (J7 10), (J7 11), (J7 12), (J7 13), (J7 14), (J7 15), (J7 16), (J7 17), (J7 18), (J7 19), (J7 20), (J7 21), (J7 22), (J7 23), (J7 24), (J7 25), (J7 26), (J7 27), (J7 28), (J7 29), (J7 30), undef, undef, undef, undef, undef, undef, undef, undef, undef, undef] ∧ kq = (L.length - (k).toNat) ∧ (0 ≤ k) ∧ (k ≤ L.length) ∧ (FilP i L out k) ∧ St W M_ w' [row A6 out.length c6 (ci .i64 out) 3 1, blk g3 [.int .i64 0, .slice none 0 0] 43, blk g1 [.int .i64 n, .slice A L.length c] 43, row A L.length c (ci .i64 L) 3 1]) (L.length - ((0 : Int)).toNat) ⟨(fun k_ : Nat => List.getD [.agg #[.int .i64 n, .slice A L.length c], .int .i64 i, .pointer (some ⟨g1, 0, none⟩), undef, .pointer (some ⟨g3, 0, none⟩), .bool false, .slice (some ⟨g5, 0, none⟩) 0 0, .int .i64 0, .slice (some ⟨g5, 0, none⟩) 0 0, undef, undef, undef, undef, undef, undef, undef, undef, undef, undef, undef, undef, undef, undef, undef, undef, undef, undef, undef, undef, undef, undef, undef, undef, undef, undef, undef, undef, undef, undef, undef, undef] k_ undef), (0 : Int), [], some ⟨g5, 0, none⟩, 0, congrArg Fr (by kernel_rfl), rfl, by omega, by omega, filP_start i L, HS⟩ ?_
  clear HS
  intro kq8 a' W9 hrel
  obtain ⟨J7, k, out, A6, c6, rfl, hk, k0, k1, hP, HS⟩ := hrel
  have hol := filP_len hP
  refine wp_seq ?_
  refine wp_seq ?_
  refine wp_region_lit ?_
  refine ql (.int .i64 k) (by kernel_rfl) (by kernel_rfl) ?_
  refine ql (.pointer (some ⟨g1, 1, none⟩)) (by kernel_rfl) (by kernel_rfl) ?_
  refine ql (.slice A L.length c) (by kernel_rfl) (R_load (p := ⟨g1, 1, none⟩) (by kernel_rfl) (by kernel_rfl) (by kernel_rfl) (HS.cell (i := 2) (j := 1) rfl rfl)) ?_
  refine ql (.int .i64 (L.length : Int)) (by kernel_rfl) (by kernel_rfl) ?_
  by_cases hc10 : k < (L.length : Int)
  · skip
    refine ql (.bool true) (by kernel_rfl) (R_bool (p := k < (L.length : Int)) (by kernel_rfl) (hc10)) ?_
    refine wpList_nil ?_
    refine x_then ?_
    refine wp_cond_true (by kernel_rfl) ?_
    refine wp_skip ?_
    refine x_then ?_
    refine wp_seq ?_
    refine wp_block ?_
    refine wp_seq ?_
    refine wp_region_lit ?_
    refine ql (.pointer (some ⟨g1, 1, none⟩)) (by kernel_rfl) (by kernel_rfl) ?_
    refine ql (.slice A L.length c) (by kernel_rfl) (R_load (p := ⟨g1, 1, none⟩) (by kernel_rfl) (by kernel_rfl) (by kernel_rfl) (HS.cell (i := 2) (j := 1) rfl rfl)) ?_
    refine ql (.int .i64 k) (by kernel_rfl) (by kernel_rfl) ?_
    obtain ⟨g11, rfl⟩ := St.rsome HS (i := 3) rfl (by omega)
    refine ql (.pointer (some ⟨g11, k.toNat, none⟩)) (by kernel_rfl) (R_index1 (k := .i64) (g := g11) (n := L.length) (c := c) (i := k) (by kernel_rfl) (by kernel_rfl) Try.underlying22 (by kernel_rfl) (by omega) (by omega)) ?_
    refine ql (.int .i64 (rdI L k)) (by kernel_rfl) (R_load (p := ⟨g11, k.toNat, none⟩) (by kernel_rfl) (by kernel_rfl) (by kernel_rfl) (HS.rcell (i := 3) rfl (ci_rd (i := k) (by omega) (by omega)))) ?_
    refine ql (.int .i64 i) (by kernel_rfl) (by kernel_rfl) ?_
    by_cases hc12 : (rdI L k) = i
    · skip
      refine ql (.bool false) (by kernel_rfl) (R_beq (b := (rdI L k != i)) (by kernel_rfl) (bne_f (hc12))) ?_
      refine wpList_nil ?_
      refine x_then ?_
      refine wp_cond_false (by kernel_rfl) ?_
      refine wp_skip ?_
      refine x_inb ?_
      refine x_then ?_
      refine wp_region_lit ?_
      refine ql (.int .i64 k) (by kernel_rfl) (by kernel_rfl) ?_
      refine ql (.int .i64 (k + 1)) (by kernel_rfl) (R_int (by kernel_rfl) (w64 (by omega))) ?_
      refine ql (.int .i64 (k + 1)) (by kernel_rfl) (by kernel_rfl) ?_
      refine wpList_nil ?_
      refine x_then ?_
      exact ⟨L.length - (k + 1).toNat, by omega, (fun k_ : Nat => List.getD [.agg #[.int .i64 n, .slice (some ⟨g11, 0, none⟩) L.length c], .int .i64 i, .pointer (some ⟨g1, 0, none⟩), undef, .pointer (some ⟨g3, 0, none⟩), .bool false, .slice A6 out.length c6, .int .i64 (k + 1), .slice (some ⟨g5, 0, none⟩) 0 0, .int .i64 k, .pointer (some ⟨g1, 1, none⟩), .slice (some ⟨g11, 0, none⟩) L.length c, .int .i64 (L.length : Int), .bool true, .int .i64 k, .int .i64 (k + 1), .pointer (some ⟨g1, 1, none⟩), .slice (some ⟨g11, 0, none⟩) L.length c, .int .i64 k, .pointer (some ⟨g11, k.toNat, none⟩), .int .i64 (rdI L k), .int .i64 i, .bool false, (J7 23), (J7 24), (J7 25), (J7 26), (J7 27), (J7 28), (J7 29), (J7 30), undef, undef, undef, undef, undef, undef, undef, undef, undef, undef] k_ undef), k + 1, out, A6, c6, congrArg Fr (by kernel_rfl), rfl, by omega, by omega, filP_eq hP k0 (by omega) hc12, HS⟩
    · skip
      refine ql (.bool true) (by kernel_rfl) (R_beq (b := (rdI L k != i)) (by kernel_rfl) (bne_t (hc12))) ?_
      refine wpList_nil ?_
      refine x_then ?_
      refine wp_cond_true (by kernel_rfl) ?_
      refine wp_region_lit ?_
      refine ql (.slice A6 out.length c6) (by kernel_rfl) (by kernel_rfl) ?_
      refine ql (.pointer (some ⟨g1, 1, none⟩)) (by kernel_rfl) (by kernel_rfl) ?_
      refine ql (.slice (some ⟨g11, 0, none⟩) L.length c) (by kernel_rfl) (R_load (p := ⟨g1, 1, none⟩) (by kernel_rfl) (by kernel_rfl) (by kernel_rfl) (HS.cell (i := 2) (j := 1) rfl rfl)) ?_
      refine ql (.int .i64 k) (by kernel_rfl) (by kernel_rfl) ?_
      refine ql (.pointer (some ⟨g11, k.toNat, none⟩)) (by kernel_rfl) (R_index1 (k := .i64) (g := g11) (n := L.length) (c := c) (i := k) (by kernel_rfl) (by kernel_rfl) Try.underlying22 (by kernel_rfl) (by omega) (by omega)) ?_
      refine ql (.int .i64 (rdI L k)) (by kernel_rfl) (R_load (p := ⟨g11, k.toNat, none⟩) (by kernel_rfl) (by kernel_rfl) (by kernel_rfl) (HS.rcell (i := 3) rfl (ci_rd (i := k) (by omega) (by omega)))) ?_
      refine kl HS 1 [.int .i64 (rdI L k)] 3 1 (by kernel_rfl) (by kernel_rfl) rfl (by decide) ?_
      intro g13 W14 H_
      replace HS : St W M_ W14 [row (some ⟨g13, 0, none⟩) 1 1 (ci .i64 ([rdI L k])) 3 1, row A6 out.length c6 (ci .i64 out) 3 1, blk g3 [.int .i64 0, .slice none 0 0] 43, blk g1 [.int .i64 n, .slice (some ⟨g11, 0, none⟩) L.length c] 43, row (some ⟨g11, 0, none⟩) L.length c (ci .i64 L) 3 1] := H_.cast_ (by kernel_rfl)
      clear H_
      obtain ⟨xs18, xs18_⟩ : ∃ z_ : List Int, z_ = out ++ ([rdI L k]) := ⟨_, rfl⟩
      have xs18l : xs18.length = out.length + 1 := by rw [xs18_, List.length_append] <;> (try simp only [List.length_cons, List.length_nil]) <;> omega
      refine ka1 HS 1 rfl (Src.of_row HS (i := 0) rfl ci_one) [.int .i64 0] 8 xs18.length (ci .i64 xs18) (by omega) (by rw [xs18_, ci_app]) (by kernel_rfl) (by kernel_rfl) (by kernel_rfl) Try.underlying22 (by kernel_rfl) (by kernel_rfl) (by kernel_rfl) (by kernel_rfl) (by decide) (by omega) (by omega) ?_
      intro A15 c16 W17 H_
      replace HS : St W M_ W17 [row (some ⟨g13, 0, none⟩) 1 1 (ci .i64 ([rdI L k])) 3 1, row A15 xs18.length c16 (ci .i64 xs18) 3 1, blk g3 [.int .i64 0, .slice none 0 0] 43, blk g1 [.int .i64 n, .slice (some ⟨g11, 0, none⟩) L.length c] 43, row (some ⟨g11, 0, none⟩) L.length c (ci .i64 L) 3 1] := H_
      clear H_
      refine ql (.slice A15 xs18.length c16) (by kernel_rfl) (by kernel_rfl) ?_
      refine wpList_nil ?_
      refine x_inb ?_
      refine x_then ?_
      refine wp_region_lit ?_
      refine ql (.int .i64 k) (by kernel_rfl) (by kernel_rfl) ?_
      refine ql (.int .i64 (k + 1)) (by kernel_rfl) (R_int (by kernel_rfl) (w64 (by omega))) ?_
      refine ql (.int .i64 (k + 1)) (by kernel_rfl) (by kernel_rfl) ?_
      refine wpList_nil ?_
      replace HS := HS.drop1
      refine x_then ?_
      exact ⟨L.length - (k + 1).toNat, by omega, (fun k_ : Nat => List.getD [.agg #[.int .i64 n, .slice (some ⟨g11, 0, none⟩) L.length c], .int .i64 i, .pointer (some ⟨g1, 0, none⟩), undef, .pointer (some ⟨g3, 0, none⟩), .bool false, .slice A15 xs18.length c16, .int .i64 (k + 1), .slice (some ⟨g5, 0, none⟩) 0 0, .int .i64 k, .pointer (some ⟨g1, 1, none⟩), .slice (some ⟨g11, 0, none⟩) L.length c, .int .i64 (L.length : Int), .bool true, .int .i64 k, .int .i64 (k + 1), .pointer (some ⟨g1, 1, none⟩), .slice (some ⟨g11, 0, none⟩) L.length c, .int .i64 k, .pointer (some ⟨g11, k.toNat, none⟩), .int .i64 (rdI L k), .int .i64 i, .bool true, .slice A6 out.length c6, .pointer (some ⟨g1, 1, none⟩), .slice (some ⟨g11, 0, none⟩) L.length c, .int .i64 k, .pointer (some ⟨g11, k.toNat, none⟩), .int .i64 (rdI L k), .slice (some ⟨g13, 0, none⟩) 1 1, .slice A15 xs18.length c16, undef, undef, undef, undef, undef, undef, undef, undef, undef, undef] k_ undef), k + 1, xs18, A15, c16, congrArg Fr (by kernel_rfl), rfl, by omega, by omega, (by rw [xs18_]; exact filP_ne hP k0 (by omega) hc12), HS⟩
  · skip
    refine ql (.bool false) (by kernel_rfl) (R_nbool (p := k < (L.length : Int)) (by kernel_rfl) (hc10)) ?_
    refine wpList_nil ?_
    refine x_then ?_
    refine wp_cond_false (by kernel_rfl) ?_
    refine wp_exit ?_
    refine x_thenE ?_
    refine x_thenE ?_
    refine x_hit ?_
    refine x_then ?_
    refine wp_seq ?_
    refine t_start HS (fun k_ => (blk g3 [.int .i64 0, .slice none 0 0] 43).own k_) 12 (by kernel_rfl) rfl ?_
    intro W19 H_ HD_
    clear HD_
    replace HS : St W M_ W19 [row A6 out.length c6 (ci .i64 out) 3 1, blk g3 [.int .i64 0, .slice none 0 0] 43, blk g1 [.int .i64 n, .slice A L.length c] 43, row A L.length c (ci .i64 L) 3 1] := H_
    clear H_
    have HV := HS
    have HK := Kpt.refl (fun k_ => (blk g3 [.int .i64 0, .slice none 0 0] 43).own k_) W19
    refine t_q (n := 11) 0 (.pointer (some ⟨g1, 0, none⟩)) rfl (by kernel_rfl) (by kernel_rfl) (fun _ _ _ h => h) (fun w' hk => (by kernel_rfl)) HK ?_
    refine t_q (n := 10) 1 (.int .i64 n) rfl (by kernel_rfl) (by kernel_rfl) (fun _ _ _ h => h) (fun w' hk => (R_load (p := ⟨g1, 0, none⟩) (by kernel_rfl) (by kernel_rfl) (by kernel_rfl) (hk.cellN (HV.sepB (a := 2) (b := 1) (by decide) rfl rfl) (HV.cell (i := 2) (j := 0) rfl rfl)))) HK ?_
    refine t_q (n := 9) 2 (.slice A6 out.length c6) rfl (by kernel_rfl) (by kernel_rfl) (fun _ _ _ h => h) (fun w' hk => (by kernel_rfl)) HK ?_
    refine t_q (n := 8) 3 (.agg #[.int .i64 n, .slice A6 out.length c6]) rfl (by kernel_rfl) (by kernel_rfl) (fun _ _ _ h => h) (fun w' hk => (by kernel_rfl)) HK ?_
    refine t_q (n := 7) 4 (.slice A6 out.length c6) rfl (by kernel_rfl) (by kernel_rfl) (fun _ _ _ h => h) (fun w' hk => (by kernel_rfl)) HK ?_
    refine t_q (n := 6) 5 (.int .i64 (out.length : Int)) rfl (by kernel_rfl) (by kernel_rfl) (fun _ _ _ h => h) (fun w' hk => (by kernel_rfl)) HK ?_
    refine t_q (n := 5) 6 (.pointer (some ⟨g1, 1, none⟩)) rfl (by kernel_rfl) (by kernel_rfl) (fun _ _ _ h => h) (fun w' hk => (by kernel_rfl)) HK ?_
    refine t_q (n := 4) 7 (.slice A L.length c) rfl (by kernel_rfl) (by kernel_rfl) (fun _ _ _ h => h) (fun w' hk => (R_load (p := ⟨g1, 1, none⟩) (by kernel_rfl) (by kernel_rfl) (by kernel_rfl) (hk.cellN (HV.sepB (a := 2) (b := 1) (by decide) rfl rfl) (HV.cell (i := 2) (j := 1) rfl rfl)))) HK ?_
    refine t_q (n := 3) 8 (.int .i64 (L.length : Int)) rfl (by kernel_rfl) (by kernel_rfl) (fun _ _ _ h => h) (fun w' hk => (by kernel_rfl)) HK ?_
    by_cases hc20 : (out.length : Int) < (L.length : Int)
    · skip
      refine t_q (n := 2) 9 (.bool true) rfl (by kernel_rfl) (by kernel_rfl) (fun _ _ _ h => h) (fun w' hk => (R_bool (p := (out.length : Int) < (L.length : Int)) (by kernel_rfl) (hc20))) HK ?_
      obtain ⟨W21, hrun_, H_, hk_⟩ := ex_ks (P := Try.prog) (ty := 0) (ps := "ref.go:48") (af := #[{ on := 3, ground := Go.Ground.data }, { on := 0, ground := Go.Ground.phase }, { on := 1, ground := Go.Ground.phase }, { on := 2, ground := Go.Ground.phase }, { on := 3, ground := Go.Ground.phase }, { on := 4, ground := (Go.Ground.textOnly Go.Departure.lateStores) }, { on := 5, ground := (Go.Ground.textOnly Go.Departure.lateStoresUnsure) }, { on := 6, ground := (Go.Ground.textOnly Go.Departure.lateStores) }, { on := 7, ground := (Go.Ground.textOnly Go.Departure.lateStores) }, { on := 8, ground := (Go.Ground.textOnly Go.Departure.lateStoresUnsure) }, { on := 9, ground := (Go.Ground.textOnly Go.Departure.lateStores) }]) (gd := none) (t := 43) (x := (Go.Operand.tmp 4)) (y := (Go.Operand.tmp 34)) (v := .agg #[.int .i64 n, .slice A6 out.length c6]) HS 1 rfl (0) [.int .i64 n, .slice A6 out.length c6] (by kernel_rfl) (by kernel_rfl) (by kernel_rfl) (by kernel_rfl) (one_ (by kernel_rfl)) (Nat.le_of_ble_eq_true rfl)
      replace HK := HK.trans hk_ (fun _ h_ => .inl (blk_own h_))
      refine t_s (n := 1) 10 rfl (by kernel_rfl) (by kernel_rfl) hrun_ HK ?_
      clear hk_ hrun_
      replace HS : St W M_ W21 [row A6 out.length c6 (ci .i64 out) 3 1, blk g3 [.int .i64 n, .slice A6 out.length c6] 43, blk g1 [.int .i64 n, .slice A L.length c] 43, row A L.length c (ci .i64 L) 3 1] := H_
      clear H_
      refine t_q (n := 0) 11 (.bool true) rfl (by kernel_rfl) (by kernel_rfl) (fun _ _ _ h => h) (fun w' hk => (by kernel_rfl)) HK ?_
      refine t_done (by kernel_rfl) ?_
      clear HV HK
      refine x_then ?_
      refine wp_ret ?_
      refine ret_ (.tuple #[.agg #[.int .i64 n, .slice A6 out.length c6], .bool true]) (res2 rfl (oneRes_agg (p := ⟨g3, 0, none⟩) [.int .i64 n, .slice A6 out.length c6] (by kernel_rfl) (by kernel_rfl) (by kernel_rfl) (by kernel_rfl) (HS.cellsN (i := 1) rfl)) (oneRes_t (by kernel_rfl))) ?_
      replace HS : St W M_ W21 [row A6 out.length c6 (ci .i64 out) 3 1] := St.tail (F := [blk g3 [.int .i64 n, .slice A6 out.length c6] 43, blk g1 [.int .i64 n, .slice A L.length c] 43, row A L.length c (ci .i64 L) 3 1]) (HS.perm (perm_ [1, 2, 3, 0] (by kernel_rfl) rfl))
      have hk9 : k = L.length := by omega
      have hq := filP_end hP hk9
      subst hq
      have hd : delB L i = true := decide_eq_true (delB_lt.1 (by omega))
      exact ⟨_, _, by rw [hd], HS⟩
    · skip
      refine t_q (n := 2) 9 (.bool false) rfl (by kernel_rfl) (by kernel_rfl) (fun _ _ _ h => h) (fun w' hk => (R_nbool (p := (out.length : Int) < (L.length : Int)) (by kernel_rfl) (hc20))) HK ?_
      obtain ⟨W22, hrun_, H_, hk_⟩ := ex_ks (P := Try.prog) (ty := 0) (ps := "ref.go:48") (af := #[{ on := 3, ground := Go.Ground.data }, { on := 0, ground := Go.Ground.phase }, { on := 1, ground := Go.Ground.phase }, { on := 2, ground := Go.Ground.phase }, { on := 3, ground := Go.Ground.phase }, { on := 4, ground := (Go.Ground.textOnly Go.Departure.lateStores) }, { on := 5, ground := (Go.Ground.textOnly Go.Departure.lateStoresUnsure) }, { on := 6, ground := (Go.Ground.textOnly Go.Departure.lateStores) }, { on := 7, ground := (Go.Ground.textOnly Go.Departure.lateStores) }, { on := 8, ground := (Go.Ground.textOnly Go.Departure.lateStoresUnsure) }, { on := 9, ground := (Go.Ground.textOnly Go.Departure.lateStores) }]) (gd := none) (t := 43) (x := (Go.Operand.tmp 4)) (y := (Go.Operand.tmp 34)) (v := .agg #[.int .i64 n, .slice A6 out.length c6]) HS 1 rfl (0) [.int .i64 n, .slice A6 out.length c6] (by kernel_rfl) (by kernel_rfl) (by kernel_rfl) (by kernel_rfl) (one_ (by kernel_rfl)) (Nat.le_of_ble_eq_true rfl)
      replace HK := HK.trans hk_ (fun _ h_ => .inl (blk_own h_))
      refine t_s (n := 1) 10 rfl (by kernel_rfl) (by kernel_rfl) hrun_ HK ?_
      clear hk_ hrun_
      replace HS : St W M_ W22 [row A6 out.length c6 (ci .i64 out) 3 1, blk g3 [.int .i64 n, .slice A6 out.length c6] 43, blk g1 [.int .i64 n, .slice A L.length c] 43, row A L.length c (ci .i64 L) 3 1] := H_
      clear H_
      refine t_q (n := 0) 11 (.bool false) rfl (by kernel_rfl) (by kernel_rfl) (fun _ _ _ h => h) (fun w' hk => (by kernel_rfl)) HK ?_
      refine t_done (by kernel_rfl) ?_
      clear HV HK
      refine x_then ?_
      refine wp_ret ?_
      refine ret_ (.tuple #[.agg #[.int .i64 n, .slice A6 out.length c6], .bool false]) (res2 rfl (oneRes_agg (p := ⟨g3, 0, none⟩) [.int .i64 n, .slice A6 out.length c6] (by kernel_rfl) (by kernel_rfl) (by kernel_rfl) (by kernel_rfl) (HS.cellsN (i := 1) rfl)) (oneRes_t (by kernel_rfl))) ?_
      replace HS : St W M_ W22 [row A6 out.length c6 (ci .i64 out) 3 1] := St.tail (F := [blk g3 [.int .i64 n, .slice A6 out.length c6] 43, blk g1 [.int .i64 n, .slice A L.length c] 43, row A L.length c (ci .i64 L) 3 1]) (HS.perm (perm_ [1, 2, 3, 0] (by kernel_rfl) rfl))
      have hk9 : k = L.length := by omega
      have hq := filP_end hP hk9
      subst hq
      have hd : delB L i = false := decide_eq_false (fun h_ => hc20 (by have := delB_lt.2 h_; omega))
      exact ⟨_, _, by rw [hd], HS⟩

open Go.Shelf

set_option maxRecDepth 100000 in
set_option maxHeartbeats 1000000 in
theorem r3or_ne (A : Option Addr) (c : Nat) (L : List Int) (n : Int) (B : Option Addr) (c2 : Nat) (M : List Int) (m : Int) (W : World) (M_ : Nat → Prop) (HS : St W M_ W [row A L.length c (ci .i64 L) 3 1, row B M.length c2 (ci .i64 M) 3 1]) (hl : L.length ≤ 50000) (hl2 : M.length ≤ 50000) (hne : n ≠ m) : Calls Try.prog 63 #[.agg #[.int .i64 n, .slice A L.length c], .agg #[.int .i64 m, .slice B M.length c2]] W fun e W' => e = .returned (.tuple #[.agg #[.int .i64 n, .slice A L.length c], .bool false]) ∧ St W M_ W' [row A L.length c (ci .i64 L) 3 1, row B M.length c2 (ci .i64 M) 3 1] := by
  refine calls_enter [.agg #[.int .i64 n, .slice A L.length c], .agg #[.int .i64 m, .slice B M.length c2], undef, undef, undef, undef, undef, undef, undef, undef, undef, undef, undef, undef, undef, undef, undef, undef, undef, undef, undef, undef, undef, undef, undef, undef, undef, undef, undef, undef, undef, undef, undef, undef, undef, undef, undef, undef, undef, undef] Try.func63 rfl (by kernel_rfl) ?_
  refine wp_seq ?_
  refine wp_region_lit ?_
  refine kb HS [.int .i64 n, .slice A L.length c] 43 (fun g => .pointer (some ⟨g, 0, none⟩)) (by kernel_rfl) (by kernel_rfl) ?_
  intro g1 W2 H_
  replace HS : St W M_ W2 [blk g1 [.int .i64 n, .slice A L.length c] 43, row A L.length c (ci .i64 L) 3 1, row B M.length c2 (ci .i64 M) 3 1] := H_
  clear H_
  refine kb HS [.int .i64 m, .slice B M.length c2] 43 (fun g => .pointer (some ⟨g, 0, none⟩)) (by kernel_rfl) (by kernel_rfl) ?_
  intro g3 W4 H_
  replace HS : St W M_ W4 [blk g3 [.int .i64 m, .slice B M.length c2] 43, blk g1 [.int .i64 n, .slice A L.length c] 43, row A L.length c (ci .i64 L) 3 1, row B M.length c2 (ci .i64 M) 3 1] := H_
  clear H_
  refine kb HS [.int .i64 0, .slice none 0 0] 43 (fun g => .pointer (some ⟨g, 0, none⟩)) (by kernel_rfl) (by kernel_rfl) ?_
  intro g5 W6 H_
  replace HS : St W M_ W6 [blk g5 [.int .i64 0, .slice none 0 0] 43, blk g3 [.int .i64 m, .slice B M.length c2] 43, blk g1 [.int .i64 n, .slice A L.length c] 43, row A L.length c (ci .i64 L) 3 1, row B M.length c2 (ci .i64 M) 3 1] := H_
  clear H_
  refine ql (.bool false) (by kernel_rfl) (by kernel_rfl) ?_
  refine wpList_nil ?_
  refine x_then ?_
  refine wp_seq ?_
  refine wp_seq ?_
  refine wp_region_lit ?_
  refine ql (.pointer (some ⟨g1, 0, none⟩)) (by kernel_rfl) (by kernel_rfl) ?_
  refine ql (.int .i64 n) (by kernel_rfl) (R_load (p := ⟨g1, 0, none⟩) (by kernel_rfl) (by kernel_rfl) (by kernel_rfl) (HS.cell (i := 2) (j := 0) rfl rfl)) ?_
  refine ql (.pointer (some ⟨g3, 0, none⟩)) (by kernel_rfl) (by kernel_rfl) ?_
  refine ql (.int .i64 m) (by kernel_rfl) (R_load (p := ⟨g3, 0, none⟩) (by kernel_rfl) (by kernel_rfl) (by kernel_rfl) (HS.cell (i := 1) (j := 0) rfl rfl)) ?_
  refine ql (.bool true) (by kernel_rfl) (R_beq (b := (n != m)) (by kernel_rfl) (bne_t (by omega))) ?_
  refine wpList_nil ?_
  refine x_then ?_
  refine wp_cond_true (by kernel_rfl) ?_
  refine wp_seq ?_
  refine wp_region_lit ?_
  refine ql (.agg #[.int .i64 n, .slice A L.length c]) (by kernel_rfl) (R_loadN (p := ⟨g1, 0, none⟩) [.int .i64 n, .slice A L.length c] (by kernel_rfl) (by kernel_rfl) (by kernel_rfl) (by kernel_rfl) (two_at (HS.cell (i := 2) (j := 0) rfl rfl) (HS.cell (i := 2) (j := 1) rfl rfl))) ?_
  refine ks (v := .agg #[.int .i64 n, .slice A L.length c]) HS 0 rfl (0) [.int .i64 n, .slice A L.length c] (by kernel_rfl) (by kernel_rfl) (by kernel_rfl) (by kernel_rfl) (by kernel_rfl) (one_ (by kernel_rfl)) (Nat.le_of_ble_eq_true rfl) rfl ?_
  intro W7 H_
  replace HS : St W M_ W7 [blk g5 [.int .i64 n, .slice A L.length c] 43, blk g3 [.int .i64 m, .slice B M.length c2] 43, blk g1 [.int .i64 n, .slice A L.length c] 43, row A L.length c (ci .i64 L) 3 1, row B M.length c2 (ci .i64 M) 3 1] := H_
  clear H_
  refine ql (.bool false) (by kernel_rfl) (by kernel_rfl) ?_
  refine wpList_nil ?_
  refine x_then ?_
  refine wp_ret ?_
  refine x_thenR ?_
  refine ret_ (.tuple #[.agg #[.int .i64 n, .slice A L.length c], .bool false]) (res2 rfl (oneRes_agg (p := ⟨g5, 0, none⟩) [.int .i64 n, .slice A L.length c] (by kernel_rfl) (by kernel_rfl) (by kernel_rfl) (by kernel_rfl) (HS.cellsN (i := 0) rfl)) (oneRes_t (by kernel_rfl))) ?_
  replace HS := HS.drop1
  replace HS := HS.drop1
  replace HS := HS.drop1
  exact ⟨rfl, HS⟩

set_option maxRecDepth 100000 in
set_option maxHeartbeats 1000000 in
theorem r3or_eq (A : Option Addr) (c : Nat) (L : List Int) (n : Int) (B : Option Addr) (c2 : Nat) (M : List Int) (W : World) (M_ : Nat → Prop) (HS : St W M_ W [row A L.length c (ci .i64 L) 3 1, row B M.length c2 (ci .i64 M) 3 1]) (hl : L.length ≤ 50000) (hl2 : M.length ≤ 50000) (hsM : M.Pairwise (· < ·)) (hlM : ∀ x ∈ M, 0 ≤ x ∧ x < n) : Calls Try.prog 63 #[.agg #[.int .i64 n, .slice A L.length c], .agg #[.int .i64 n, .slice B M.length c2]] W fun e W' => ∃ A' c', e = .returned (.tuple #[.agg #[.int .i64 n, .slice A' (uni L M).length c'], .bool (newB L M)]) ∧ St W M_ W' [row A' ((uni L M).length) c' (ci .i64 (uni L M)) 3 1, row B M.length c2 (ci .i64 M) 3 1] := by
  refine calls_enter [.agg #[.int .i64 n, .slice A L.length c], .agg #[.int .i64 n, .slice B M.length c2], undef, undef, undef, undef, undef, undef, undef, undef, undef, undef, undef, undef, undef, undef, undef, undef, undef, undef, undef, undef, undef, undef, undef, undef, undef, undef, undef, undef, undef, undef, undef, undef, undef, undef, undef, undef, undef, undef] Try.func63 rfl (by kernel_rfl) ?_
  refine wp_seq ?_
  refine wp_region_lit ?_
  refine kb HS [.int .i64 n, .slice A L.length c] 43 (fun g => .pointer (some ⟨g, 0, none⟩)) (by kernel_rfl) (by kernel_rfl) ?_
  intro g1 W2 H_
  replace HS : St W M_ W2 [blk g1 [.int .i64 n, .slice A L.length c] 43, row A L.length c (ci .i64 L) 3 1, row B M.length c2 (ci .i64 M) 3 1] := H_
  clear H_
  refine kb HS [.int .i64 n, .slice B M.length c2] 43 (fun g => .pointer (some ⟨g, 0, none⟩)) (by kernel_rfl) (by kernel_rfl) ?_
  intro g3 W4 H_
  replace HS : St W M_ W4 [blk g3 [.int .i64 n, .slice B M.length c2] 43, blk g1 [.int .i64 n, .slice A L.length c] 43, row A L.length c (ci .i64 L) 3 1, row B M.length c2 (ci .i64 M) 3 1] := H_
  clear H_
  refine kb HS [.int .i64 0, .slice none 0 0] 43 (fun g => .pointer (some ⟨g, 0, none⟩)) (by kernel_rfl) (by kernel_rfl) ?_
  intro g5 W6 H_
  replace HS : St W M_ W6 [blk g5 [.int .i64 0, .slice none 0 0] 43, blk g3 [.int .i64 n, .slice B M.length c2] 43, blk g1 [.int .i64 n, .slice A L.length c] 43, row A L.length c (ci .i64 L) 3 1, row B M.length c2 (ci .i64 M) 3 1] := H_
  clear H_
  refine ql (.bool false) (by kernel_rfl) (by kernel_rfl) ?_
  refine wpList_nil ?_
  refine x_then ?_
  refine wp_seq ?_
  refine wp_seq ?_
  refine wp_region_lit ?_
  refine ql (.pointer (some ⟨g1, 0, none⟩)) (by kernel_rfl) (by kernel_rfl) ?_
  refine ql (.int .i64 n) (by kernel_rfl) (R_load (p := ⟨g1, 0, none⟩) (by kernel_rfl) (by kernel_rfl) (by kernel_rfl) (HS.cell (i := 2) (j := 0) rfl rfl)) ?_
  refine ql (.pointer (some ⟨g3, 0, none⟩)) (by kernel_rfl) (by kernel_rfl) ?_
  refine ql (.int .i64 n) (by kernel_rfl) (R_load (p := ⟨g3, 0, none⟩) (by kernel_rfl) (by kernel_rfl) (by kernel_rfl) (HS.cell (i := 1) (j := 0) rfl rfl)) ?_
  refine ql (.bool false) (by kernel_rfl) (R_beq (b := (n != n)) (by kernel_rfl) (bne_f (by omega))) ?_
  refine wpList_nil ?_
  refine x_then ?_
  refine wp_cond_false (by kernel_rfl) ?_
  refine wp_skip ?_
  refine x_then ?_
  refine wp_seq ?_
  refine wp_region_lit ?_
  refine ql (.bool false) (by kernel_rfl) (by kernel_rfl) ?_
  refine wpList_nil ?_
  refine x_then ?_
  refine wp_seq ?_
  refine wp_seq ?_
  refine wp_region_lit ?_
  refine ql (.int .i64 0) (by kernel_rfl) (by kernel_rfl) ?_
  refine wpList_nil ?_
  refine x_then ?_
  refine wp_block ?_
  refine wp_loop_ghost (fun kq a' w' => ∃ (J7 : Nat → Value) (k : Int) (ch : Bool) (cur : List Int) (A5 : Option Addr) (c5 : Nat) , a' = Fr [.agg #[.int .i64 n, .slice A L.length c], .agg #[.int .i64 n, .slice B M.length c2], .pointer (some ⟨g1, 0, none⟩), .pointer (some ⟨g3, 0, none⟩), .pointer (some ⟨g5, 0, none⟩), .bool false, .bool ch, .int .i64 k, (J7 8), (J7 9), .pointer (some ⟨g1, 0, none⟩), .int .i64 n, .pointer (some ⟨g3, 0, none⟩), .int .i64 n, .bool false, undef, (J7 16), (J7 17), (J7 18), (J7 19), (J7 20), (J7 21), (J7 22), (J7 23), (J7 24), (J7 25), (J7 26), (J7 27), (J7 28), (J7 29), (J7 30), (J7 31), (J7 32), (J7 33), (J7 34), (J7 35), (J7 36), (J7 37), undef, undef] ∧ kq = (M.length - (k).toNat) ∧ (0 ≤ k) ∧ (k ≤ M.length) ∧ (UniP L M cur ch k) ∧ St W M_ w' [blk g5 [.int .i64 0, .slice none 0 0] 43, blk g3 [.int .i64 n, .slice B M.length c2] 43, blk g1 [.int .i64 n, .slice A5 cur.length c5] 43, row A5 cur.length c5 (ci .i64 cur) 3 1, row B M.length c2 (ci .i64 M) 3 1]) (M.length - ((0 : Int)).toNat) ⟨(fun k_ : Nat => List.getD [.agg #[.int .i64 n, .slice A L.length c], .agg #[.int .i64 n, .slice B M.length c2], .pointer (some ⟨g1, 0, none⟩), .pointer (some ⟨g3, 0, none⟩), .pointer (some ⟨g5, 0, none⟩), .bool false, .bool false, .int .i64 0, undef, undef, .pointer (some ⟨g1, 0, none⟩), .int .i64 n, .pointer (some ⟨g3, 0, none⟩), .int .i64 n, .bool false, undef, undef, undef, undef, undef, undef, undef, undef, undef, undef, undef, undef, undef, undef, undef, undef, undef, undef, undef, undef, undef, undef, undef, undef, undef] k_ undef), (0 : Int), false, L, A, c, congrArg Fr (by kernel_rfl), rfl, by omega, by omega, uniP_start L M, HS⟩ ?_
  clear HS
  intro kq8 a' W9 hrel
  obtain ⟨J7, k, ch, cur, A5, c5, rfl, hk, k0, k1, hU, HS⟩ := hrel
  have hul := uniP_len hU
  refine wp_seq ?_
  refine wp_seq ?_
  refine wp_region_lit ?_
  refine ql (.int .i64 k) (by kernel_rfl) (by kernel_rfl) ?_
  refine ql (.pointer (some ⟨g3, 1, none⟩)) (by kernel_rfl) (by kernel_rfl) ?_
  refine ql (.slice B M.length c2) (by kernel_rfl) (R_load (p := ⟨g3, 1, none⟩) (by kernel_rfl) (by kernel_rfl) (by kernel_rfl) (HS.cell (i := 1) (j := 1) rfl rfl)) ?_
  refine ql (.int .i64 (M.length : Int)) (by kernel_rfl) (by kernel_rfl) ?_
  by_cases hc10 : k < (M.length : Int)
  · skip
    refine ql (.bool true) (by kernel_rfl) (R_bool (p := k < (M.length : Int)) (by kernel_rfl) (hc10)) ?_
    refine wpList_nil ?_
    refine x_then ?_
    refine wp_cond_true (by kernel_rfl) ?_
    refine wp_skip ?_
    refine x_then ?_
    refine wp_seq ?_
    refine wp_block ?_
    refine wp_seq ?_
    refine t_start HS (fun k_ => (row A5 cur.length c5 (ci .i64 cur) 3 1).own k_) 13 (by kernel_rfl) rfl ?_
    intro W11 H_ HD_
    clear HD_
    replace HS : St W M_ W11 [blk g5 [.int .i64 0, .slice none 0 0] 43, blk g3 [.int .i64 n, .slice B M.length c2] 43, blk g1 [.int .i64 n, .slice A5 cur.length c5] 43, row A5 cur.length c5 (ci .i64 cur) 3 1, row B M.length c2 (ci .i64 M) 3 1] := H_
    clear H_
    have HV := HS
    have HK := Kpt.refl (fun k_ => (row A5 cur.length c5 (ci .i64 cur) 3 1).own k_) W11
    refine t_q (n := 12) 0 (.agg #[.int .i64 n, .slice A5 cur.length c5]) rfl (by kernel_rfl) (by kernel_rfl) (fun _ _ _ h => h) (fun w' hk => (R_loadN (p := ⟨g1, 0, none⟩) [.int .i64 n, .slice A5 cur.length c5] (by kernel_rfl) (by kernel_rfl) (by kernel_rfl) (by kernel_rfl) (two_at (hk.cellN (HV.sepB (a := 2) (b := 3) (by decide) rfl rfl) (HV.cell (i := 2) (j := 0) rfl rfl)) (hk.cellN (HV.sepB (a := 2) (b := 3) (by decide) rfl rfl) (HV.cell (i := 2) (j := 1) rfl rfl))))) HK ?_
    refine t_q (n := 11) 1 (.pointer (some ⟨g3, 1, none⟩)) rfl (by kernel_rfl) (by kernel_rfl) (fun _ _ _ h => h) (fun w' hk => (by kernel_rfl)) HK ?_
    refine t_q (n := 10) 2 (.slice B M.length c2) rfl (by kernel_rfl) (by kernel_rfl) (fun _ _ _ h => h) (fun w' hk => (R_load (p := ⟨g3, 1, none⟩) (by kernel_rfl) (by kernel_rfl) (by kernel_rfl) (hk.cellN (HV.sepB (a := 1) (b := 3) (by decide) rfl rfl) (HV.cell (i := 1) (j := 1) rfl rfl)))) HK ?_
    refine t_q (n := 9) 3 (.int .i64 k) rfl (by kernel_rfl) (by kernel_rfl) (fun _ _ _ h => h) (fun w' hk => (by kernel_rfl)) HK ?_
    obtain ⟨g12, rfl⟩ := St.rsome HS (i := 4) rfl (by omega)
    refine t_q (n := 8) 4 (.pointer (some ⟨g12, k.toNat, none⟩)) rfl (by kernel_rfl) (by kernel_rfl) (fun _ _ _ h => h) (fun w' hk => (R_index1 (k := .i64) (g := g12) (n := M.length) (c := c2) (i := k) (by kernel_rfl) (by kernel_rfl) Try.underlying22 (by kernel_rfl) (by omega) (by omega))) HK ?_
    refine t_q (n := 7) 5 (.int .i64 (rdI M k)) rfl (by kernel_rfl) (by kernel_rfl) (fun _ _ _ h => h) (fun w' hk => (R_load (p := ⟨g12, k.toNat, none⟩) (by kernel_rfl) (by kernel_rfl) (by kernel_rfl) (hk.cellN (HV.sepR (a := 4) (b := 3) (by decide) rfl rfl) (HV.rcell (i := 4) rfl (ci_rd (i := k) (by omega) (by omega)))))) HK ?_
    refine t_pick2 (n := 6) 6 10 (by kernel_rfl) ?_ ?_
    · skip
      refine t_c2 (n := 6) 6 (f := 60) (args := #[.agg #[.int .i64 n, .slice A5 cur.length c5], .int .i64 (rdI M k)]) rfl (by kernel_rfl) (R_call #[.agg #[.int .i64 n, .slice A5 cur.length c5], .int .i64 (rdI M k)] Try.func60 (by kernel_rfl) (by kernel_rfl) (by kernel_rfl)) ?_
      replace HS : St W M_ W11 [row A5 cur.length c5 (ci .i64 cur) 3 1, blk g5 [.int .i64 0, .slice none 0 0] 43, blk g3 [.int .i64 n, .slice (some ⟨g12, 0, none⟩) M.length c2] 43, blk g1 [.int .i64 n, .slice A5 cur.length c5] 43, row (some ⟨g12, 0, none⟩) M.length c2 (ci .i64 M) 3 1] := HS.perm (perm_ [3, 0, 1, 2, 4] (by kernel_rfl) rfl)
      refine (r3add A5 c5 cur n (rdI M k) _ _ (St.focus (F := [row A5 cur.length c5 (ci .i64 cur) 3 1]) HS) (by omega)).mono ?_
      rintro e W15 ⟨A13, c14, rfl, H_⟩
      have hkf_ : ∀ k_, owns [row A5 cur.length c5 (ci .i64 cur) 3 1] k_ → (row A5 cur.length c5 (ci .i64 cur) 3 1).own k_ := by
        intro k_ h_; obtain ⟨e_, he_, ho_⟩ := h_; simp only [List.mem_cons, List.not_mem_nil, or_false] at he_; rcases he_ with rfl <;> first | exact ho_
      refine ⟨_, rfl, HK.trans H_.kept (fun _ h_ => .inl (hkf_ _ h_)), ?_⟩
      replace HK := HK.trans H_.kept (fun _ h_ => .inl (hkf_ _ h_))
      replace HS : St W M_ W15 [row A13 ((addL n cur (rdI M k)).length) c14 (ci .i64 (addL n cur (rdI M k))) 3 1, blk g5 [.int .i64 0, .slice none 0 0] 43, blk g3 [.int .i64 n, .slice (some ⟨g12, 0, none⟩) M.length c2] 43, blk g1 [.int .i64 n, .slice A5 cur.length c5] 43, row (some ⟨g12, 0, none⟩) M.length c2 (ci .i64 M) 3 1] := HS.join (F := [row A5 cur.length c5 (ci .i64 cur) 3 1]) (G := [row A13 ((addL n cur (rdI M k)).length) c14 (ci .i64 (addL n cur (rdI M k))) 3 1]) H_
      clear H_
      refine t_q (n := 5) 7 (.tuple #[.agg #[.int .i64 n, .slice A13 ((addL n cur (rdI M k)).length) c14], .bool (addB n cur (rdI M k))]) rfl (by kernel_rfl) (by kernel_rfl) (fun _ _ _ h => h) (fun w' hk => (by kernel_rfl)) HK ?_
      refine t_q (n := 4) 8 (.agg #[.int .i64 n, .slice A13 ((addL n cur (rdI M k)).length) c14]) rfl (by kernel_rfl) (by kernel_rfl) (fun _ _ _ h => h) (fun w' hk => (by kernel_rfl)) HK ?_
      refine t_q (n := 3) 9 (.bool (addB n cur (rdI M k))) rfl (by kernel_rfl) (by kernel_rfl) (fun _ _ _ h => h) (fun w' hk => (by kernel_rfl)) HK ?_
      obtain ⟨g16, W17, hg_, hw_, H_, hk_⟩ := ex_blk HS [.int .i64 0, .slice none 0 0] 43
      have hv_g16 := Nat.le_trans HK.size (Nat.le_of_eq (Eq.symm hg_))
      refine t_e (n := 2) 10 (.pointer (some ⟨g16, 0, none⟩)) rfl (by kernel_rfl) (by kernel_rfl) (by subst hg_; subst hw_; kernel_rfl) (HK.tr hk_) ?_
      replace HK := HK.tr hk_
      clear hk_
      clear hg_ hw_
      replace HS : St W M_ W17 [blk g16 [.int .i64 0, .slice none 0 0] 43, row A13 ((addL n cur (rdI M k)).length) c14 (ci .i64 (addL n cur (rdI M k))) 3 1, blk g5 [.int .i64 0, .slice none 0 0] 43, blk g3 [.int .i64 n, .slice (some ⟨g12, 0, none⟩) M.length c2] 43, blk g1 [.int .i64 n, .slice A5 cur.length c5] 43, row (some ⟨g12, 0, none⟩) M.length c2 (ci .i64 M) 3 1] := H_
      clear H_
      obtain ⟨W18, hrun_, H_, hk_⟩ := ex_ks (P := Try.prog) (ty := 0) (ps := "ref.go:58") (af := #[{ on := 10, ground := Go.Ground.data }, { on := 8, ground := Go.Ground.data }, { on := 6, ground := Go.Ground.chain }, { on := 0, ground := Go.Ground.phase }, { on := 1, ground := Go.Ground.phase }, { on := 2, ground := Go.Ground.phase }, { on := 3, ground := Go.Ground.phase }, { on := 4, ground := Go.Ground.phase }, { on := 5, ground := Go.Ground.phase }, { on := 6, ground := Go.Ground.phase }, { on := 7, ground := Go.Ground.phase }, { on := 8, ground := Go.Ground.phase }, { on := 9, ground := (Go.Ground.textOnly Go.Departure.lateStores) }, { on := 10, ground := Go.Ground.phase }]) (gd := none) (t := 43) (x := (Go.Operand.tmp 8)) (y := (Go.Operand.tmp 31)) (v := .agg #[.int .i64 n, .slice A13 ((addL n cur (rdI M k)).length) c14]) HS 0 rfl (0) [.int .i64 n, .slice A13 ((addL n cur (rdI M k)).length) c14] (by kernel_rfl) (by kernel_rfl) (by kernel_rfl) (by kernel_rfl) (one_ (by kernel_rfl)) (Nat.le_of_ble_eq_true rfl)
      replace HK := HK.trans hk_ (fun _ h_ => .inr (Nat.le_trans hv_g16 (Nat.le_of_eq (Eq.symm h_))))
      refine t_s (n := 1) 11 rfl (by kernel_rfl) (by kernel_rfl) hrun_ HK ?_
      clear hk_ hrun_
      replace HS : St W M_ W18 [blk g16 [.int .i64 n, .slice A13 ((addL n cur (rdI M k)).length) c14] 43, row A13 ((addL n cur (rdI M k)).length) c14 (ci .i64 (addL n cur (rdI M k))) 3 1, blk g5 [.int .i64 0, .slice none 0 0] 43, blk g3 [.int .i64 n, .slice (some ⟨g12, 0, none⟩) M.length c2] 43, blk g1 [.int .i64 n, .slice A5 cur.length c5] 43, row (some ⟨g12, 0, none⟩) M.length c2 (ci .i64 M) 3 1] := H_
      clear H_
      refine t_q (n := 0) 12 (.bool (addB n cur (rdI M k))) rfl (by kernel_rfl) (by kernel_rfl) (fun _ _ _ h => h) (fun w' hk => (by kernel_rfl)) HK ?_
      refine t_done (by kernel_rfl) ?_
      clear HV HK
      refine x_then ?_
      refine wp_seq ?_
      refine wp_region_lit ?_
      refine ql (.agg #[.int .i64 n, .slice A13 ((addL n cur (rdI M k)).length) c14]) (by kernel_rfl) (R_loadN (p := ⟨g16, 0, none⟩) [.int .i64 n, .slice A13 ((addL n cur (rdI M k)).length) c14] (by kernel_rfl) (by kernel_rfl) (by kernel_rfl) (by kernel_rfl) (two_at (HS.cell (i := 0) (j := 0) rfl rfl) (HS.cell (i := 0) (j := 1) rfl rfl))) ?_
      refine ks (v := .agg #[.int .i64 n, .slice A13 ((addL n cur (rdI M k)).length) c14]) HS 4 rfl (0) [.int .i64 n, .slice A13 ((addL n cur (rdI M k)).length) c14] (by kernel_rfl) (by kernel_rfl) (by kernel_rfl) (by kernel_rfl) (by kernel_rfl) (one_ (by kernel_rfl)) (Nat.le_of_ble_eq_true rfl) rfl ?_
      intro W19 H_
      replace HS : St W M_ W19 [blk g16 [.int .i64 n, .slice A13 ((addL n cur (rdI M k)).length) c14] 43, row A13 ((addL n cur (rdI M k)).length) c14 (ci .i64 (addL n cur (rdI M k))) 3 1, blk g5 [.int .i64 0, .slice none 0 0] 43, blk g3 [.int .i64 n, .slice (some ⟨g12, 0, none⟩) M.length c2] 43, blk g1 [.int .i64 n, .slice A13 ((addL n cur (rdI M k)).length) c14] 43, row (some ⟨g12, 0, none⟩) M.length c2 (ci .i64 M) 3 1] := H_
      clear H_
      refine wpList_nil ?_
      refine x_then ?_
      refine wp_region_lit ?_
      refine ql (.bool ch) (by kernel_rfl) (by kernel_rfl) ?_
      refine ql (.bool ch) (by kernel_rfl) (by kernel_rfl) ?_
      by_cases hb20 : ch = true
      · skip
        subst hb20
        refine qln (by kernel_rfl) ?_
        refine ql (.bool true) (by kernel_rfl) (by kernel_rfl) ?_
        refine ql (.bool true) (by kernel_rfl) (by kernel_rfl) ?_
        refine wpList_nil ?_
        refine x_inb ?_
        refine x_then ?_
        refine wp_region_lit ?_
        refine ql (.int .i64 k) (by kernel_rfl) (by kernel_rfl) ?_
        refine ql (.int .i64 (k + 1)) (by kernel_rfl) (R_int (by kernel_rfl) (w64 (by omega))) ?_
        refine ql (.int .i64 (k + 1)) (by kernel_rfl) (by kernel_rfl) ?_
        refine wpList_nil ?_
        replace HS : St W M_ W19 [blk g5 [.int .i64 0, .slice none 0 0] 43, blk g3 [.int .i64 n, .slice (some ⟨g12, 0, none⟩) M.length c2] 43, blk g1 [.int .i64 n, .slice A13 ((addL n cur (rdI M k)).length) c14] 43, row A13 ((addL n cur (rdI M k)).length) c14 (ci .i64 (addL n cur (rdI M k))) 3 1, row (some ⟨g12, 0, none⟩) M.length c2 (ci .i64 M) 3 1] := St.tail (F := [blk g16 [.int .i64 n, .slice A13 ((addL n cur (rdI M k)).length) c14] 43]) (HS.perm (perm_ [0, 2, 3, 4, 1, 5] (by kernel_rfl) rfl))
        refine x_then ?_
        exact ⟨M.length - (k + 1).toNat, by omega, (fun k_ : Nat => List.getD [.agg #[.int .i64 n, .slice A L.length c], .agg #[.int .i64 n, .slice (some ⟨g12, 0, none⟩) M.length c2], .pointer (some ⟨g1, 0, none⟩), .pointer (some ⟨g3, 0, none⟩), .pointer (some ⟨g5, 0, none⟩), .bool false, .bool true, .int .i64 (k + 1), .pointer (some ⟨g16, 0, none⟩), .bool (addB n cur (rdI M k)), .pointer (some ⟨g1, 0, none⟩), .int .i64 n, .pointer (some ⟨g3, 0, none⟩), .int .i64 n, .bool false, undef, .int .i64 k, .pointer (some ⟨g3, 1, none⟩), .slice (some ⟨g12, 0, none⟩) M.length c2, .int .i64 (M.length : Int), .bool true, .int .i64 k, .int .i64 (k + 1), .tuple #[.agg #[.int .i64 n, .slice A13 ((addL n cur (rdI M k)).length) c14], .bool (addB n cur (rdI M k))], .agg #[.int .i64 n, .slice A5 cur.length c5], .pointer (some ⟨g3, 1, none⟩), .slice (some ⟨g12, 0, none⟩) M.length c2, .int .i64 k, .pointer (some ⟨g12, k.toNat, none⟩), .int .i64 (rdI M k), .tuple #[.agg #[.int .i64 n, .slice A13 ((addL n cur (rdI M k)).length) c14], .bool (addB n cur (rdI M k))], .agg #[.int .i64 n, .slice A13 ((addL n cur (rdI M k)).length) c14], .bool (addB n cur (rdI M k)), .agg #[.int .i64 n, .slice A13 ((addL n cur (rdI M k)).length) c14], .bool true, .bool true, undef, .bool true, undef, undef] k_ undef), k + 1, true, (addL n cur (rdI M k)), A13, c14, congrArg Fr (by kernel_rfl), rfl, by omega, by omega, (by have h_ := uniP_step hU hsM hlM k0 (by omega); simpa using h_), HS⟩
      · skip
        replace hb20 := Bool.eq_false_iff.2 hb20
        subst hb20
        refine ql (.bool (addB n cur (rdI M k))) (by kernel_rfl) (by kernel_rfl) ?_
        refine ql (.bool (addB n cur (rdI M k))) (by kernel_rfl) (by kernel_rfl) ?_
        refine ql (.bool (addB n cur (rdI M k))) (by kernel_rfl) (by kernel_rfl) ?_
        refine wpList_nil ?_
        refine x_inb ?_
        refine x_then ?_
        refine wp_region_lit ?_
        refine ql (.int .i64 k) (by kernel_rfl) (by kernel_rfl) ?_
        refine ql (.int .i64 (k + 1)) (by kernel_rfl) (R_int (by kernel_rfl) (w64 (by omega))) ?_
        refine ql (.int .i64 (k + 1)) (by kernel_rfl) (by kernel_rfl) ?_
        refine wpList_nil ?_
        replace HS : St W M_ W19 [blk g5 [.int .i64 0, .slice none 0 0] 43, blk g3 [.int .i64 n, .slice (some ⟨g12, 0, none⟩) M.length c2] 43, blk g1 [.int .i64 n, .slice A13 ((addL n cur (rdI M k)).length) c14] 43, row A13 ((addL n cur (rdI M k)).length) c14 (ci .i64 (addL n cur (rdI M k))) 3 1, row (some ⟨g12, 0, none⟩) M.length c2 (ci .i64 M) 3 1] := St.tail (F := [blk g16 [.int .i64 n, .slice A13 ((addL n cur (rdI M k)).length) c14] 43]) (HS.perm (perm_ [0, 2, 3, 4, 1, 5] (by kernel_rfl) rfl))
        refine x_then ?_
        exact ⟨M.length - (k + 1).toNat, by omega, (fun k_ : Nat => List.getD [.agg #[.int .i64 n, .slice A L.length c], .agg #[.int .i64 n, .slice (some ⟨g12, 0, none⟩) M.length c2], .pointer (some ⟨g1, 0, none⟩), .pointer (some ⟨g3, 0, none⟩), .pointer (some ⟨g5, 0, none⟩), .bool false, .bool (addB n cur (rdI M k)), .int .i64 (k + 1), .pointer (some ⟨g16, 0, none⟩), .bool (addB n cur (rdI M k)), .pointer (some ⟨g1, 0, none⟩), .int .i64 n, .pointer (some ⟨g3, 0, none⟩), .int .i64 n, .bool false, undef, .int .i64 k, .pointer (some ⟨g3, 1, none⟩), .slice (some ⟨g12, 0, none⟩) M.length c2, .int .i64 (M.length : Int), .bool true, .int .i64 k, .int .i64 (k + 1), .tuple #[.agg #[.int .i64 n, .slice A13 ((addL n cur (rdI M k)).length) c14], .bool (addB n cur (rdI M k))], .agg #[.int .i64 n, .slice A5 cur.length c5], .pointer (some ⟨g3, 1, none⟩), .slice (some ⟨g12, 0, none⟩) M.length c2, .int .i64 k, .pointer (some ⟨g12, k.toNat, none⟩), .int .i64 (rdI M k), .tuple #[.agg #[.int .i64 n, .slice A13 ((addL n cur (rdI M k)).length) c14], .bool (addB n cur (rdI M k))], .agg #[.int .i64 n, .slice A13 ((addL n cur (rdI M k)).length) c14], .bool (addB n cur (rdI M k)), .agg #[.int .i64 n, .slice A13 ((addL n cur (rdI M k)).length) c14], .bool false, .bool false, .bool (addB n cur (rdI M k)), .bool (addB n cur (rdI M k)), undef, undef] k_ undef), k + 1, (addB n cur (rdI M k)), (addL n cur (rdI M k)), A13, c14, congrArg Fr (by kernel_rfl), rfl, by omega, by omega, (by have h_ := uniP_step hU hsM hlM k0 (by omega); simpa using h_), HS⟩
    · skip
      obtain ⟨g21, W22, hg_, hw_, H_, hk_⟩ := ex_blk HS [.int .i64 0, .slice none 0 0] 43
      have hv_g21 := Nat.le_trans HK.size (Nat.le_of_eq (Eq.symm hg_))
      refine t_e2 (n := 6) 10 (.pointer (some ⟨g21, 0, none⟩)) rfl (by kernel_rfl) (by subst hg_; subst hw_; kernel_rfl) (HK.tr hk_) ?_
      replace HK := HK.tr hk_
      clear hk_
      clear hg_ hw_
      replace HS : St W M_ W22 [blk g21 [.int .i64 0, .slice none 0 0] 43, blk g5 [.int .i64 0, .slice none 0 0] 43, blk g3 [.int .i64 n, .slice (some ⟨g12, 0, none⟩) M.length c2] 43, blk g1 [.int .i64 n, .slice A5 cur.length c5] 43, row A5 cur.length c5 (ci .i64 cur) 3 1, row (some ⟨g12, 0, none⟩) M.length c2 (ci .i64 M) 3 1] := H_
      clear H_
      refine t_c (n := 5) 6 (f := 60) (args := #[.agg #[.int .i64 n, .slice A5 cur.length c5], .int .i64 (rdI M k)]) rfl (by kernel_rfl) (by kernel_rfl) (R_call #[.agg #[.int .i64 n, .slice A5 cur.length c5], .int .i64 (rdI M k)] Try.func60 (by kernel_rfl) (by kernel_rfl) (by kernel_rfl)) ?_
      replace HS : St W M_ W22 [row A5 cur.length c5 (ci .i64 cur) 3 1, blk g21 [.int .i64 0, .slice none 0 0] 43, blk g5 [.int .i64 0, .slice none 0 0] 43, blk g3 [.int .i64 n, .slice (some ⟨g12, 0, none⟩) M.length c2] 43, blk g1 [.int .i64 n, .slice A5 cur.length c5] 43, row (some ⟨g12, 0, none⟩) M.length c2 (ci .i64 M) 3 1] := HS.perm (perm_ [4, 0, 1, 2, 3, 5] (by kernel_rfl) rfl)
      refine (r3add A5 c5 cur n (rdI M k) _ _ (St.focus (F := [row A5 cur.length c5 (ci .i64 cur) 3 1]) HS) (by omega)).mono ?_
      rintro e W25 ⟨A23, c24, rfl, H_⟩
      have hkf_ : ∀ k_, owns [row A5 cur.length c5 (ci .i64 cur) 3 1] k_ → (row A5 cur.length c5 (ci .i64 cur) 3 1).own k_ := by
        intro k_ h_; obtain ⟨e_, he_, ho_⟩ := h_; simp only [List.mem_cons, List.not_mem_nil, or_false] at he_; rcases he_ with rfl <;> first | exact ho_
      refine ⟨_, rfl, HK.trans H_.kept (fun _ h_ => .inl (hkf_ _ h_)), ?_⟩
      replace HK := HK.trans H_.kept (fun _ h_ => .inl (hkf_ _ h_))
      replace HS : St W M_ W25 [row A23 ((addL n cur (rdI M k)).length) c24 (ci .i64 (addL n cur (rdI M k))) 3 1, blk g21 [.int .i64 0, .slice none 0 0] 43, blk g5 [.int .i64 0, .slice none 0 0] 43, blk g3 [.int .i64 n, .slice (some ⟨g12, 0, none⟩) M.length c2] 43, blk g1 [.int .i64 n, .slice A5 cur.length c5] 43, row (some ⟨g12, 0, none⟩) M.length c2 (ci .i64 M) 3 1] := HS.join (F := [row A5 cur.length c5 (ci .i64 cur) 3 1]) (G := [row A23 ((addL n cur (rdI M k)).length) c24 (ci .i64 (addL n cur (rdI M k))) 3 1]) H_
      clear H_
      refine t_q (n := 4) 7 (.tuple #[.agg #[.int .i64 n, .slice A23 ((addL n cur (rdI M k)).length) c24], .bool (addB n cur (rdI M k))]) rfl (by kernel_rfl) (by kernel_rfl) (fun _ _ _ h => h) (fun w' hk => (by kernel_rfl)) HK ?_
      refine t_q (n := 3) 8 (.agg #[.int .i64 n, .slice A23 ((addL n cur (rdI M k)).length) c24]) rfl (by kernel_rfl) (by kernel_rfl) (fun _ _ _ h => h) (fun w' hk => (by kernel_rfl)) HK ?_
      refine t_q (n := 2) 9 (.bool (addB n cur (rdI M k))) rfl (by kernel_rfl) (by kernel_rfl) (fun _ _ _ h => h) (fun w' hk => (by kernel_rfl)) HK ?_
      obtain ⟨W26, hrun_, H_, hk_⟩ := ex_ks (P := Try.prog) (ty := 0) (ps := "ref.go:58") (af := #[{ on := 10, ground := Go.Ground.data }, { on := 8, ground := Go.Ground.data }, { on := 6, ground := Go.Ground.chain }, { on := 0, ground := Go.Ground.phase }, { on := 1, ground := Go.Ground.phase }, { on := 2, ground := Go.Ground.phase }, { on := 3, ground := Go.Ground.phase }, { on := 4, ground := Go.Ground.phase }, { on := 5, ground := Go.Ground.phase }, { on := 6, ground := Go.Ground.phase }, { on := 7, ground := Go.Ground.phase }, { on := 8, ground := Go.Ground.phase }, { on := 9, ground := (Go.Ground.textOnly Go.Departure.lateStores) }, { on := 10, ground := Go.Ground.phase }]) (gd := none) (t := 43) (x := (Go.Operand.tmp 8)) (y := (Go.Operand.tmp 31)) (v := .agg #[.int .i64 n, .slice A23 ((addL n cur (rdI M k)).length) c24]) HS 1 rfl (0) [.int .i64 n, .slice A23 ((addL n cur (rdI M k)).length) c24] (by kernel_rfl) (by kernel_rfl) (by kernel_rfl) (by kernel_rfl) (one_ (by kernel_rfl)) (Nat.le_of_ble_eq_true rfl)
      replace HK := HK.trans hk_ (fun _ h_ => .inr (Nat.le_trans hv_g21 (Nat.le_of_eq (Eq.symm h_))))
      refine t_s (n := 1) 11 rfl (by kernel_rfl) (by kernel_rfl) hrun_ HK ?_
      clear hk_ hrun_
      replace HS : St W M_ W26 [row A23 ((addL n cur (rdI M k)).length) c24 (ci .i64 (addL n cur (rdI M k))) 3 1, blk g21 [.int .i64 n, .slice A23 ((addL n cur (rdI M k)).length) c24] 43, blk g5 [.int .i64 0, .slice none 0 0] 43, blk g3 [.int .i64 n, .slice (some ⟨g12, 0, none⟩) M.length c2] 43, blk g1 [.int .i64 n, .slice A5 cur.length c5] 43, row (some ⟨g12, 0, none⟩) M.length c2 (ci .i64 M) 3 1] := H_
      clear H_
      refine t_q (n := 0) 12 (.bool (addB n cur (rdI M k))) rfl (by kernel_rfl) (by kernel_rfl) (fun _ _ _ h => h) (fun w' hk => (by kernel_rfl)) HK ?_
      refine t_done (by kernel_rfl) ?_
      clear HV HK
      refine x_then ?_
      refine wp_seq ?_
      refine wp_region_lit ?_
      refine ql (.agg #[.int .i64 n, .slice A23 ((addL n cur (rdI M k)).length) c24]) (by kernel_rfl) (R_loadN (p := ⟨g21, 0, none⟩) [.int .i64 n, .slice A23 ((addL n cur (rdI M k)).length) c24] (by kernel_rfl) (by kernel_rfl) (by kernel_rfl) (by kernel_rfl) (two_at (HS.cell (i := 1) (j := 0) rfl rfl) (HS.cell (i := 1) (j := 1) rfl rfl))) ?_
      refine ks (v := .agg #[.int .i64 n, .slice A23 ((addL n cur (rdI M k)).length) c24]) HS 4 rfl (0) [.int .i64 n, .slice A23 ((addL n cur (rdI M k)).length) c24] (by kernel_rfl) (by kernel_rfl) (by kernel_rfl) (by kernel_rfl) (by kernel_rfl) (one_ (by kernel_rfl)) (Nat.le_of_ble_eq_true rfl) rfl ?_
      intro W27 H_
      replace HS : St W M_ W27 [row A23 ((addL n cur (rdI M k)).length) c24 (ci .i64 (addL n cur (rdI M k))) 3 1, blk g21 [.int .i64 n, .slice A23 ((addL n cur (rdI M k)).length) c24] 43, blk g5 [.int .i64 0, .slice none 0 0] 43, blk g3 [.int .i64 n, .slice (some ⟨g12, 0, none⟩) M.length c2] 43, blk g1 [.int .i64 n, .slice A23 ((addL n cur (rdI M k)).length) c24] 43, row (some ⟨g12, 0, none⟩) M.length c2 (ci .i64 M) 3 1] := H_
      clear H_
      refine wpList_nil ?_
      refine x_then ?_
      refine wp_region_lit ?_
      refine ql (.bool ch) (by kernel_rfl) (by kernel_rfl) ?_
      refine ql (.bool ch) (by kernel_rfl) (by kernel_rfl) ?_
      by_cases hb28 : ch = true
      · skip
        subst hb28
        refine qln (by kernel_rfl) ?_
        refine ql (.bool true) (by kernel_rfl) (by kernel_rfl) ?_
        refine ql (.bool true) (by kernel_rfl) (by kernel_rfl) ?_
        refine wpList_nil ?_
        refine x_inb ?_
        refine x_then ?_
        refine wp_region_lit ?_
        refine ql (.int .i64 k) (by kernel_rfl) (by kernel_rfl) ?_
        refine ql (.int .i64 (k + 1)) (by kernel_rfl) (R_int (by kernel_rfl) (w64 (by omega))) ?_
        refine ql (.int .i64 (k + 1)) (by kernel_rfl) (by kernel_rfl) ?_
        refine wpList_nil ?_
        replace HS : St W M_ W27 [blk g5 [.int .i64 0, .slice none 0 0] 43, blk g3 [.int .i64 n, .slice (some ⟨g12, 0, none⟩) M.length c2] 43, blk g1 [.int .i64 n, .slice A23 ((addL n cur (rdI M k)).length) c24] 43, row A23 ((addL n cur (rdI M k)).length) c24 (ci .i64 (addL n cur (rdI M k))) 3 1, row (some ⟨g12, 0, none⟩) M.length c2 (ci .i64 M) 3 1] := St.tail (F := [blk g21 [.int .i64 n, .slice A23 ((addL n cur (rdI M k)).length) c24] 43]) (HS.perm (perm_ [1, 2, 3, 4, 0, 5] (by kernel_rfl) rfl))
        refine x_then ?_
        exact ⟨M.length - (k + 1).toNat, by omega, (fun k_ : Nat => List.getD [.agg #[.int .i64 n, .slice A L.length c], .agg #[.int .i64 n, .slice (some ⟨g12, 0, none⟩) M.length c2], .pointer (some ⟨g1, 0, none⟩), .pointer (some ⟨g3, 0, none⟩), .pointer (some ⟨g5, 0, none⟩), .bool false, .bool true, .int .i64 (k + 1), .pointer (some ⟨g21, 0, none⟩), .bool (addB n cur (rdI M k)), .pointer (some ⟨g1, 0, none⟩), .int .i64 n, .pointer (some ⟨g3, 0, none⟩), .int .i64 n, .bool false, undef, .int .i64 k, .pointer (some ⟨g3, 1, none⟩), .slice (some ⟨g12, 0, none⟩) M.length c2, .int .i64 (M.length : Int), .bool true, .int .i64 k, .int .i64 (k + 1), .tuple #[.agg #[.int .i64 n, .slice A23 ((addL n cur (rdI M k)).length) c24], .bool (addB n cur (rdI M k))], .agg #[.int .i64 n, .slice A5 cur.length c5], .pointer (some ⟨g3, 1, none⟩), .slice (some ⟨g12, 0, none⟩) M.length c2, .int .i64 k, .pointer (some ⟨g12, k.toNat, none⟩), .int .i64 (rdI M k), .tuple #[.agg #[.int .i64 n, .slice A23 ((addL n cur (rdI M k)).length) c24], .bool (addB n cur (rdI M k))], .agg #[.int .i64 n, .slice A23 ((addL n cur (rdI M k)).length) c24], .bool (addB n cur (rdI M k)), .agg #[.int .i64 n, .slice A23 ((addL n cur (rdI M k)).length) c24], .bool true, .bool true, undef, .bool true, undef, undef] k_ undef), k + 1, true, (addL n cur (rdI M k)), A23, c24, congrArg Fr (by kernel_rfl), rfl, by omega, by omega, (by have h_ := uniP_step hU hsM hlM k0 (by omega); simpa using h_), HS⟩
      · skip
        replace hb28 := Bool.eq_false_iff.2 hb28
        subst hb28
        refine ql (.bool (addB n cur (rdI M k))) (by kernel_rfl) (by kernel_rfl) ?_
        refine ql (.bool (addB n cur (rdI M k))) (by kernel_rfl) (by kernel_rfl) ?_
        refine ql (.bool (addB n cur (rdI M k))) (by kernel_rfl) (by kernel_rfl) ?_
        refine wpList_nil ?_
        refine x_inb ?_
        refine x_then ?_
        refine wp_region_lit ?_
        refine ql (.int .i64 k) (by kernel_rfl) (by kernel_rfl) ?_
        refine ql (.int .i64 (k + 1)) (by kernel_rfl) (R_int (by kernel_rfl) (w64 (by omega))) ?_
        refine ql (.int .i64 (k + 1)) (by kernel_rfl) (by kernel_rfl) ?_
        refine wpList_nil ?_
        replace HS : St W M_ W27 [blk g5 [.int .i64 0, .slice none 0 0] 43, blk g3 [.int .i64 n, .slice (some ⟨g12, 0, none⟩) M.length c2] 43, blk g1 [.int .i64 n, .slice A23 ((addL n cur (rdI M k)).length) c24] 43, row A23 ((addL n cur (rdI M k)).length) c24 (ci .i64 (addL n cur (rdI M k))) 3 1, row (some ⟨g12, 0, none⟩) M.length c2 (ci .i64 M) 3 1] := St.tail (F := [blk g21 [.int .i64 n, .slice A23 ((addL n cur (rdI M k)).length) c24] 43]) (HS.perm (perm_ [1, 2, 3, 4, 0, 5] (by kernel_rfl) rfl))
        refine x_then ?_
        exact ⟨M.length - (k + 1).toNat, by omega, (fun k_ : Nat => List.getD [.agg #[.int .i64 n, .slice A L.length c], .agg #[.int .i64 n, .slice (some ⟨g12, 0, none⟩) M.length c2], .pointer (some ⟨g1, 0, none⟩), .pointer (some ⟨g3, 0, none⟩), .pointer (some ⟨g5, 0, none⟩), .bool false, .bool (addB n cur (rdI M k)), .int .i64 (k + 1), .pointer (some ⟨g21, 0, none⟩), .bool (addB n cur (rdI M k)), .pointer (some ⟨g1, 0, none⟩), .int .i64 n, .pointer (some ⟨g3, 0, none⟩), .int .i64 n, .bool false, undef, .int .i64 k, .pointer (some ⟨g3, 1, none⟩), .slice (some ⟨g12, 0, none⟩) M.length c2, .int .i64 (M.length : Int), .bool true, .int .i64 k, .int .i64 (k + 1), .tuple #[.agg #[.int .i64 n, .slice A23 ((addL n cur (rdI M k)).length) c24], .bool (addB n cur (rdI M k))], .agg #[.int .i64 n, .slice A5 cur.length c5], .pointer (some ⟨g3, 1, none⟩), .slice (some ⟨g12, 0, none⟩) M.length c2, .int .i64 k, .pointer (some ⟨g12, k.toNat, none⟩), .int .i64 (rdI M k), .tuple #[.agg #[.int .i64 n, .slice A23 ((addL n cur (rdI M k)).length) c24], .bool (addB n cur (rdI M k))], .agg #[.int .i64 n, .slice A23 ((addL n cur (rdI M k)).length) c24], .bool (addB n cur (rdI M k)), .agg #[.int .i64 n, .slice A23 ((addL n cur (rdI M k)).length) c24], .bool false, .bool false, .bool (addB n cur (rdI M k)), .bool (addB n cur (rdI M k)), undef, undef] k_ undef), k + 1, (addB n cur (rdI M k)), (addL n cur (rdI M k)), A23, c24, congrArg Fr (by kernel_rfl), rfl, by omega, by omega, (by have h_ := uniP_step hU hsM hlM k0 (by omega); simpa using h_), HS⟩
  · skip
    refine ql (.bool false) (by kernel_rfl) (R_nbool (p := k < (M.length : Int)) (by kernel_rfl) (hc10)) ?_
    refine wpList_nil ?_
    refine x_then ?_
    refine wp_cond_false (by kernel_rfl) ?_
    refine wp_exit ?_
    refine x_thenE ?_
    refine x_thenE ?_
    refine x_hit ?_
    refine x_then ?_
    refine wp_seq ?_
    refine wp_region_lit ?_
    refine ql (.agg #[.int .i64 n, .slice A5 cur.length c5]) (by kernel_rfl) (R_loadN (p := ⟨g1, 0, none⟩) [.int .i64 n, .slice A5 cur.length c5] (by kernel_rfl) (by kernel_rfl) (by kernel_rfl) (by kernel_rfl) (two_at (HS.cell (i := 2) (j := 0) rfl rfl) (HS.cell (i := 2) (j := 1) rfl rfl))) ?_
    refine ql (.bool ch) (by kernel_rfl) (by kernel_rfl) ?_
    refine ks (v := .agg #[.int .i64 n, .slice A5 cur.length c5]) HS 0 rfl (0) [.int .i64 n, .slice A5 cur.length c5] (by kernel_rfl) (by kernel_rfl) (by kernel_rfl) (by kernel_rfl) (by kernel_rfl) (one_ (by kernel_rfl)) (Nat.le_of_ble_eq_true rfl) rfl ?_
    intro W29 H_
    replace HS : St W M_ W29 [blk g5 [.int .i64 n, .slice A5 cur.length c5] 43, blk g3 [.int .i64 n, .slice B M.length c2] 43, blk g1 [.int .i64 n, .slice A5 cur.length c5] 43, row A5 cur.length c5 (ci .i64 cur) 3 1, row B M.length c2 (ci .i64 M) 3 1] := H_
    clear H_
    refine ql (.bool ch) (by kernel_rfl) (by kernel_rfl) ?_
    refine wpList_nil ?_
    refine x_then ?_
    refine wp_ret ?_
    refine ret_ (.tuple #[.agg #[.int .i64 n, .slice A5 cur.length c5], .bool ch]) (res2 rfl (oneRes_agg (p := ⟨g5, 0, none⟩) [.int .i64 n, .slice A5 cur.length c5] (by kernel_rfl) (by kernel_rfl) (by kernel_rfl) (by kernel_rfl) (HS.cellsN (i := 0) rfl)) (oneRes_t (by kernel_rfl))) ?_
    replace HS := HS.drop1
    replace HS := HS.drop1
    replace HS := HS.drop1
    have hk9 : k = M.length := by omega
    obtain ⟨hq, hz⟩ := uniP_end hU hk9
    subst hq
    subst hz
    exact ⟨_, _, rfl, HS⟩

theorem r3or_e2 (A : Option Addr) (c : Nat) (L : List Int) (n : Int) (B : Option Addr) (c2 : Nat) (M : List Int) (m : Int) (W : World) (M_ : Nat → Prop) (HS : St W M_ W [row A L.length c (ci .i64 L) 3 1, row B M.length c2 (ci .i64 M) 3 1]) (hl : L.length ≤ 50000) (hl2 : M.length ≤ 50000) (hnm : n = m) (hsM : M.Pairwise (· < ·)) (hlM : ∀ x ∈ M, 0 ≤ x ∧ x < m) : Calls Try.prog 63 #[.agg #[.int .i64 n, .slice A L.length c], .agg #[.int .i64 m, .slice B M.length c2]] W fun e W' => ∃ A' c', e = .returned (.tuple #[.agg #[.int .i64 n, .slice A' (uni L M).length c'], .bool (newB L M)]) ∧ St W M_ W' [row A' ((uni L M).length) c' (ci .i64 (uni L M)) 3 1, row B M.length c2 (ci .i64 M) 3 1] := by
  subst hnm
  exact r3or_eq A c L n B c2 M W M_ HS hl hl2 hsM hlM

set_option maxRecDepth 100000 in
set_option maxHeartbeats 1000000 in
theorem r3do (A : Option Addr) (c : Nat) (L : List Int) (n : Int) (B : Option Addr) (c2 : Nat) (M : List Int) (m : Int) (kd i : Int) (W : World) (M_ : Nat → Prop) (HS : St W M_ W [row A L.length c (ci .i64 L) 3 1, row B M.length c2 (ci .i64 M) 3 1]) (hl : L.length ≤ 50000) (hl2 : M.length ≤ 50000) (hsL : L.Pairwise (· < ·)) (hlL : ∀ x ∈ L, 0 ≤ x ∧ x < n) (hsM : M.Pairwise (· < ·)) (hlM : ∀ x ∈ M, 0 ≤ x ∧ x < m) : Calls Try.prog 27 #[.agg #[.int .i64 n, .slice A L.length c], .agg #[.int .i64 m, .slice B M.length c2], .agg #[.int .i64 kd, .int .i64 i]] W fun e W' => ∃ A1 c1 A2 c3, e = .returned (.tuple #[.agg #[.int .i64 n, .slice A1 (sL n m kd i L M).length c1], .agg #[.int .i64 m, .slice A2 (sM n m kd i L M).length c3], .bool (sB n m kd i L M)]) ∧ St W M_ W' [row A1 ((sL n m kd i L M).length) c1 (ci .i64 (sL n m kd i L M)) 3 1, row A2 ((sM n m kd i L M).length) c3 (ci .i64 (sM n m kd i L M)) 3 1] := by
  refine calls_enter ((.agg #[.int .i64 n, .slice A L.length c]) :: (.agg #[.int .i64 m, .slice B M.length c2]) :: (.agg #[.int .i64 kd, .int .i64 i]) :: undef :: undef :: undef :: undef :: undef :: undef :: undef :: undef :: undef :: undef :: undef :: undef :: undef :: undef :: undef :: undef :: undef :: undef :: undef :: undef :: undef :: undef :: undef :: undef :: undef :: undef :: undef :: undef :: undef :: undef :: undef :: undef :: undef :: undef :: undef :: undef :: undef :: undef :: undef :: undef :: undef :: undef :: undef :: undef :: undef :: undef :: undef :: undef :: undef :: undef :: undef :: undef :: undef :: undef :: undef :: undef :: undef :: undef :: undef :: undef :: undef :: undef :: undef :: undef :: []) Try.func27 rfl (by kernel_rfl) ?_
  refine wp_seq ?_
  refine wp_region_lit ?_
  refine kb HS [.int .i64 n, .slice A L.length c] 43 (fun g => .pointer (some ⟨g, 0, none⟩)) (by kernel_rfl) (by kernel_rfl) ?_
  intro g1 W2 H_
  replace HS : St W M_ W2 [blk g1 [.int .i64 n, .slice A L.length c] 43, row A L.length c (ci .i64 L) 3 1, row B M.length c2 (ci .i64 M) 3 1] := H_
  clear H_
  refine kb HS [.int .i64 m, .slice B M.length c2] 43 (fun g => .pointer (some ⟨g, 0, none⟩)) (by kernel_rfl) (by kernel_rfl) ?_
  intro g3 W4 H_
  replace HS : St W M_ W4 [blk g3 [.int .i64 m, .slice B M.length c2] 43, blk g1 [.int .i64 n, .slice A L.length c] 43, row A L.length c (ci .i64 L) 3 1, row B M.length c2 (ci .i64 M) 3 1] := H_
  clear H_
  refine kb HS [.int .i64 kd, .int .i64 i] 49 (fun g => .pointer (some ⟨g, 0, none⟩)) (by kernel_rfl) (by kernel_rfl) ?_
  intro g5 W6 H_
  replace HS : St W M_ W6 [blk g5 [.int .i64 kd, .int .i64 i] 49, blk g3 [.int .i64 m, .slice B M.length c2] 43, blk g1 [.int .i64 n, .slice A L.length c] 43, row A L.length c (ci .i64 L) 3 1, row B M.length c2 (ci .i64 M) 3 1] := H_
  clear H_
  refine kb HS [.int .i64 0, .slice none 0 0] 43 (fun g => .pointer (some ⟨g, 0, none⟩)) (by kernel_rfl) (by kernel_rfl) ?_
  intro g7 W8 H_
  replace HS : St W M_ W8 [blk g7 [.int .i64 0, .slice none 0 0] 43, blk g5 [.int .i64 kd, .int .i64 i] 49, blk g3 [.int .i64 m, .slice B M.length c2] 43, blk g1 [.int .i64 n, .slice A L.length c] 43, row A L.length c (ci .i64 L) 3 1, row B M.length c2 (ci .i64 M) 3 1] := H_
  clear H_
  refine kb HS [.int .i64 0, .slice none 0 0] 43 (fun g => .pointer (some ⟨g, 0, none⟩)) (by kernel_rfl) (by kernel_rfl) ?_
  intro g9 W10 H_
  replace HS : St W M_ W10 [blk g9 [.int .i64 0, .slice none 0 0] 43, blk g7 [.int .i64 0, .slice none 0 0] 43, blk g5 [.int .i64 kd, .int .i64 i] 49, blk g3 [.int .i64 m, .slice B M.length c2] 43, blk g1 [.int .i64 n, .slice A L.length c] 43, row A L.length c (ci .i64 L) 3 1, row B M.length c2 (ci .i64 M) 3 1] := H_
  clear H_
  refine ql (.bool false) (by kernel_rfl) (by kernel_rfl) ?_
  refine wpList_nil ?_
  refine x_then ?_
  refine wp_seq ?_
  refine wp_region_lit ?_
  refine ql (.bool false) (by kernel_rfl) (by kernel_rfl) ?_
  refine wpList_nil ?_
  refine x_then ?_
  refine wp_seq ?_
  refine wp_seq ?_
  refine wp_region_lit ?_
  refine ql (.pointer (some ⟨g5, 0, none⟩)) (by kernel_rfl) (by kernel_rfl) ?_
  refine ql (.int .i64 kd) (by kernel_rfl) (R_load (p := ⟨g5, 0, none⟩) (by kernel_rfl) (by kernel_rfl) (by kernel_rfl) (HS.cell (i := 2) (j := 0) rfl rfl)) ?_
  refine wpList_nil ?_
  refine x_then ?_
  refine wp_block ?_
  refine wp_seq ?_
  refine wp_region_lit ?_
  by_cases hc11 : kd = (0 : Int)
  · skip
    refine ql (.bool true) (by kernel_rfl) (R_beq (b := (kd == (0 : Int))) (by kernel_rfl) (beq_t (hc11))) ?_
    refine ql (.bool true) (by kernel_rfl) (by kernel_rfl) ?_
    refine wpList_nil ?_
    refine x_then ?_
    refine wp_cond_true (by kernel_rfl) ?_
    refine wp_region_lit ?_
    refine ql (.agg #[.int .i64 n, .slice A L.length c]) (by kernel_rfl) (R_loadN (p := ⟨g1, 0, none⟩) [.int .i64 n, .slice A L.length c] (by kernel_rfl) (by kernel_rfl) (by kernel_rfl) (by kernel_rfl) (two_at (HS.cell (i := 4) (j := 0) rfl rfl) (HS.cell (i := 4) (j := 1) rfl rfl))) ?_
    refine ql (.pointer (some ⟨g5, 1, none⟩)) (by kernel_rfl) (by kernel_rfl) ?_
    refine ql (.int .i64 i) (by kernel_rfl) (R_load (p := ⟨g5, 1, none⟩) (by kernel_rfl) (by kernel_rfl) (by kernel_rfl) (HS.cell (i := 2) (j := 1) rfl rfl)) ?_
    refine qc (f := 60) (args := #[.agg #[.int .i64 n, .slice A L.length c], .int .i64 i]) (by kernel_rfl) (R_call #[.agg #[.int .i64 n, .slice A L.length c], .int .i64 i] Try.func60 (by kernel_rfl) (by kernel_rfl) (by kernel_rfl)) ?_
    replace HS : St W M_ W10 [row A L.length c (ci .i64 L) 3 1, blk g9 [.int .i64 0, .slice none 0 0] 43, blk g7 [.int .i64 0, .slice none 0 0] 43, blk g5 [.int .i64 kd, .int .i64 i] 49, blk g3 [.int .i64 m, .slice B M.length c2] 43, blk g1 [.int .i64 n, .slice A L.length c] 43, row B M.length c2 (ci .i64 M) 3 1] := HS.perm (perm_ [5, 0, 1, 2, 3, 4, 6] (by kernel_rfl) rfl)
    refine (r3add A c L n i _ _ (St.focus (F := [row A L.length c (ci .i64 L) 3 1]) HS) (by omega)).mono ?_
    rintro e W14 ⟨A12, c13, rfl, H_⟩
    refine ⟨_, rfl, ?_⟩
    replace HS : St W M_ W14 [row A12 ((addL n L i).length) c13 (ci .i64 (addL n L i)) 3 1, blk g9 [.int .i64 0, .slice none 0 0] 43, blk g7 [.int .i64 0, .slice none 0 0] 43, blk g5 [.int .i64 kd, .int .i64 i] 49, blk g3 [.int .i64 m, .slice B M.length c2] 43, blk g1 [.int .i64 n, .slice A L.length c] 43, row B M.length c2 (ci .i64 M) 3 1] := HS.join (F := [row A L.length c (ci .i64 L) 3 1]) (G := [row A12 ((addL n L i).length) c13 (ci .i64 (addL n L i)) 3 1]) H_
    clear H_
    refine ql (.tuple #[.agg #[.int .i64 n, .slice A12 ((addL n L i).length) c13], .bool (addB n L i)]) (by kernel_rfl) (by kernel_rfl) ?_
    refine ql (.agg #[.int .i64 n, .slice A12 ((addL n L i).length) c13]) (by kernel_rfl) (by kernel_rfl) ?_
    refine ql (.bool (addB n L i)) (by kernel_rfl) (by kernel_rfl) ?_
    refine ks (v := .agg #[.int .i64 n, .slice A12 ((addL n L i).length) c13]) HS 5 rfl (0) [.int .i64 n, .slice A12 ((addL n L i).length) c13] (by kernel_rfl) (by kernel_rfl) (by kernel_rfl) (by kernel_rfl) (by kernel_rfl) (one_ (by kernel_rfl)) (Nat.le_of_ble_eq_true rfl) rfl ?_
    intro W15 H_
    replace HS : St W M_ W15 [row A12 ((addL n L i).length) c13 (ci .i64 (addL n L i)) 3 1, blk g9 [.int .i64 0, .slice none 0 0] 43, blk g7 [.int .i64 0, .slice none 0 0] 43, blk g5 [.int .i64 kd, .int .i64 i] 49, blk g3 [.int .i64 m, .slice B M.length c2] 43, blk g1 [.int .i64 n, .slice A12 ((addL n L i).length) c13] 43, row B M.length c2 (ci .i64 M) 3 1] := H_
    clear H_
    refine ql (.bool (addB n L i)) (by kernel_rfl) (by kernel_rfl) ?_
    refine wpList_nil ?_
    refine x_inb ?_
    refine x_then ?_
    refine wp_seq ?_
    refine t_start HS (fun k_ => (blk g9 [.int .i64 0, .slice none 0 0] 43).own k_ ∨ (blk g7 [.int .i64 0, .slice none 0 0] 43).own k_) 6 (by kernel_rfl) rfl ?_
    intro W16 H_ HD_
    clear HD_
    replace HS : St W M_ W16 [row A12 ((addL n L i).length) c13 (ci .i64 (addL n L i)) 3 1, blk g9 [.int .i64 0, .slice none 0 0] 43, blk g7 [.int .i64 0, .slice none 0 0] 43, blk g5 [.int .i64 kd, .int .i64 i] 49, blk g3 [.int .i64 m, .slice B M.length c2] 43, blk g1 [.int .i64 n, .slice A12 ((addL n L i).length) c13] 43, row B M.length c2 (ci .i64 M) 3 1] := H_
    clear H_
    have HV := HS
    have HK := Kpt.refl (fun k_ => (blk g9 [.int .i64 0, .slice none 0 0] 43).own k_ ∨ (blk g7 [.int .i64 0, .slice none 0 0] 43).own k_) W16
    refine t_q (n := 5) 0 (.agg #[.int .i64 n, .slice A12 ((addL n L i).length) c13]) rfl (by kernel_rfl) (by kernel_rfl) (fun _ _ _ h => h) (fun w' hk => (R_loadN (p := ⟨g1, 0, none⟩) [.int .i64 n, .slice A12 ((addL n L i).length) c13] (by kernel_rfl) (by kernel_rfl) (by kernel_rfl) (by kernel_rfl) (two_at (hk.cellN (fun h_ => h_.elim (HV.sepB (a := 5) (b := 1) (by decide) rfl rfl) (HV.sepB (a := 5) (b := 2) (by decide) rfl rfl)) (HV.cell (i := 5) (j := 0) rfl rfl)) (hk.cellN (fun h_ => h_.elim (HV.sepB (a := 5) (b := 1) (by decide) rfl rfl) (HV.sepB (a := 5) (b := 2) (by decide) rfl rfl)) (HV.cell (i := 5) (j := 1) rfl rfl))))) HK ?_
    refine t_q (n := 4) 1 (.agg #[.int .i64 m, .slice B M.length c2]) rfl (by kernel_rfl) (by kernel_rfl) (fun _ _ _ h => h) (fun w' hk => (R_loadN (p := ⟨g3, 0, none⟩) [.int .i64 m, .slice B M.length c2] (by kernel_rfl) (by kernel_rfl) (by kernel_rfl) (by kernel_rfl) (two_at (hk.cellN (fun h_ => h_.elim (HV.sepB (a := 4) (b := 1) (by decide) rfl rfl) (HV.sepB (a := 4) (b := 2) (by decide) rfl rfl)) (HV.cell (i := 4) (j := 0) rfl rfl)) (hk.cellN (fun h_ => h_.elim (HV.sepB (a := 4) (b := 1) (by decide) rfl rfl) (HV.sepB (a := 4) (b := 2) (by decide) rfl rfl)) (HV.cell (i := 4) (j := 1) rfl rfl))))) HK ?_
    refine t_q (n := 3) 2 (.bool (addB n L i)) rfl (by kernel_rfl) (by kernel_rfl) (fun _ _ _ h => h) (fun w' hk => (by kernel_rfl)) HK ?_
    obtain ⟨W17, hrun_, H_, hk_⟩ := ex_ks (P := Try.prog) (ty := 0) (ps := "ref.go:105") (af := #[{ on := 0, ground := Go.Ground.data }, { on := 0, ground := Go.Ground.phase }, { on := 1, ground := (Go.Ground.textOnly Go.Departure.lateStores) }, { on := 2, ground := (Go.Ground.textOnly Go.Departure.lateStores) }]) (gd := none) (t := 43) (x := (Go.Operand.tmp 6)) (y := (Go.Operand.tmp 64)) (v := .agg #[.int .i64 n, .slice A12 ((addL n L i).length) c13]) HS 2 rfl (0) [.int .i64 n, .slice A12 ((addL n L i).length) c13] (by kernel_rfl) (by kernel_rfl) (by kernel_rfl) (by kernel_rfl) (one_ (by kernel_rfl)) (Nat.le_of_ble_eq_true rfl)
    replace HK := HK.trans hk_ (fun _ h_ => .inl (.inr (blk_own h_)))
    refine t_s (n := 2) 3 rfl (by kernel_rfl) (by kernel_rfl) hrun_ HK ?_
    clear hk_ hrun_
    replace HS : St W M_ W17 [row A12 ((addL n L i).length) c13 (ci .i64 (addL n L i)) 3 1, blk g9 [.int .i64 0, .slice none 0 0] 43, blk g7 [.int .i64 n, .slice A12 ((addL n L i).length) c13] 43, blk g5 [.int .i64 kd, .int .i64 i] 49, blk g3 [.int .i64 m, .slice B M.length c2] 43, blk g1 [.int .i64 n, .slice A12 ((addL n L i).length) c13] 43, row B M.length c2 (ci .i64 M) 3 1] := H_
    clear H_
    obtain ⟨W18, hrun_, H_, hk_⟩ := ex_ks (P := Try.prog) (ty := 0) (ps := "ref.go:105") (af := #[{ on := 1, ground := Go.Ground.data }, { on := 3, ground := Go.Ground.chain }, { on := 0, ground := Go.Ground.phase }, { on := 1, ground := Go.Ground.phase }, { on := 2, ground := (Go.Ground.textOnly Go.Departure.lateStores) }, { on := 3, ground := Go.Ground.phase }]) (gd := none) (t := 43) (x := (Go.Operand.tmp 7)) (y := (Go.Operand.tmp 65)) (v := .agg #[.int .i64 m, .slice B M.length c2]) HS 1 rfl (0) [.int .i64 m, .slice B M.length c2] (by kernel_rfl) (by kernel_rfl) (by kernel_rfl) (by kernel_rfl) (one_ (by kernel_rfl)) (Nat.le_of_ble_eq_true rfl)
    replace HK := HK.trans hk_ (fun _ h_ => .inl (.inl (blk_own h_)))
    refine t_s (n := 1) 4 rfl (by kernel_rfl) (by kernel_rfl) hrun_ HK ?_
    clear hk_ hrun_
    replace HS : St W M_ W18 [row A12 ((addL n L i).length) c13 (ci .i64 (addL n L i)) 3 1, blk g9 [.int .i64 m, .slice B M.length c2] 43, blk g7 [.int .i64 n, .slice A12 ((addL n L i).length) c13] 43, blk g5 [.int .i64 kd, .int .i64 i] 49, blk g3 [.int .i64 m, .slice B M.length c2] 43, blk g1 [.int .i64 n, .slice A12 ((addL n L i).length) c13] 43, row B M.length c2 (ci .i64 M) 3 1] := H_
    clear H_
    refine t_q (n := 0) 5 (.bool (addB n L i)) rfl (by kernel_rfl) (by kernel_rfl) (fun _ _ _ h => h) (fun w' hk => (by kernel_rfl)) HK ?_
    refine t_done (by kernel_rfl) ?_
    clear HV HK
    refine x_then ?_
    refine wp_ret ?_
    refine ret_ (.tuple #[.agg #[.int .i64 n, .slice A12 ((addL n L i).length) c13], .agg #[.int .i64 m, .slice B M.length c2], .bool (addB n L i)]) (res3 rfl (oneRes_agg (p := ⟨g7, 0, none⟩) [.int .i64 n, .slice A12 ((addL n L i).length) c13] (by kernel_rfl) (by kernel_rfl) (by kernel_rfl) (by kernel_rfl) (HS.cellsN (i := 2) rfl)) (oneRes_agg (p := ⟨g9, 0, none⟩) [.int .i64 m, .slice B M.length c2] (by kernel_rfl) (by kernel_rfl) (by kernel_rfl) (by kernel_rfl) (HS.cellsN (i := 1) rfl)) (oneRes_t (by kernel_rfl))) ?_
    replace HS : St W M_ W18 [row A12 ((addL n L i).length) c13 (ci .i64 (addL n L i)) 3 1, row B M.length c2 (ci .i64 M) 3 1] := St.tail (F := [blk g9 [.int .i64 m, .slice B M.length c2] 43, blk g7 [.int .i64 n, .slice A12 ((addL n L i).length) c13] 43, blk g5 [.int .i64 kd, .int .i64 i] 49, blk g3 [.int .i64 m, .slice B M.length c2] 43, blk g1 [.int .i64 n, .slice A12 ((addL n L i).length) c13] 43]) (HS.perm (perm_ [1, 2, 3, 4, 5, 0, 6] (by kernel_rfl) rfl))
    have esL : sL n m kd i L M = addL n L i := by unfold sL; rw [if_pos (show kd = 0 by omega)]
    have esM : sM n m kd i L M = M := by unfold sM; rw [if_neg (show ¬ kd = 2 by omega), if_neg (show ¬ kd = 3 by omega), if_neg (show ¬ kd = 5 by omega)]
    have esB : sB n m kd i L M = addB n L i := by unfold sB; rw [if_pos (show kd = 0 by omega)]
    exact ⟨_, _, _, _, by rw [esL, esM, esB], by rw [esL, esM]; exact HS⟩
  · skip
    refine ql (.bool false) (by kernel_rfl) (R_beq (b := (kd == (0 : Int))) (by kernel_rfl) (beq_f (hc11))) ?_
    refine ql (.bool false) (by kernel_rfl) (by kernel_rfl) ?_
    refine wpList_nil ?_
    refine x_then ?_
    refine wp_cond_false (by kernel_rfl) ?_
    refine wp_seq ?_
    refine wp_region_lit ?_
    by_cases hc19 : kd = (1 : Int)
    · skip
      refine ql (.bool true) (by kernel_rfl) (R_beq (b := (kd == (1 : Int))) (by kernel_rfl) (beq_t (hc19))) ?_
      refine ql (.bool true) (by kernel_rfl) (by kernel_rfl) ?_
      refine wpList_nil ?_
      refine x_then ?_
      refine wp_cond_true (by kernel_rfl) ?_
      refine wp_region_lit ?_
      refine ql (.agg #[.int .i64 n, .slice A L.length c]) (by kernel_rfl) (R_loadN (p := ⟨g1, 0, none⟩) [.int .i64 n, .slice A L.length c] (by kernel_rfl) (by kernel_rfl) (by kernel_rfl) (by kernel_rfl) (two_at (HS.cell (i := 4) (j := 0) rfl rfl) (HS.cell (i := 4) (j := 1) rfl rfl))) ?_
      refine ql (.pointer (some ⟨g5, 1, none⟩)) (by kernel_rfl) (by kernel_rfl) ?_
      refine ql (.int .i64 i) (by kernel_rfl) (R_load (p := ⟨g5, 1, none⟩) (by kernel_rfl) (by kernel_rfl) (by kernel_rfl) (HS.cell (i := 2) (j := 1) rfl rfl)) ?_
      refine qc (f := 62) (args := #[.agg #[.int .i64 n, .slice A L.length c], .int .i64 i]) (by kernel_rfl) (R_call #[.agg #[.int .i64 n, .slice A L.length c], .int .i64 i] Try.func62 (by kernel_rfl) (by kernel_rfl) (by kernel_rfl)) ?_
      replace HS : St W M_ W10 [row A L.length c (ci .i64 L) 3 1, blk g9 [.int .i64 0, .slice none 0 0] 43, blk g7 [.int .i64 0, .slice none 0 0] 43, blk g5 [.int .i64 kd, .int .i64 i] 49, blk g3 [.int .i64 m, .slice B M.length c2] 43, blk g1 [.int .i64 n, .slice A L.length c] 43, row B M.length c2 (ci .i64 M) 3 1] := HS.perm (perm_ [5, 0, 1, 2, 3, 4, 6] (by kernel_rfl) rfl)
      refine (r3del A c L n i _ _ (St.focus (F := [row A L.length c (ci .i64 L) 3 1]) HS) (by omega)).mono ?_
      rintro e W22 ⟨A20, c21, rfl, H_⟩
      refine ⟨_, rfl, ?_⟩
      replace HS : St W M_ W22 [row A20 ((delL L i).length) c21 (ci .i64 (delL L i)) 3 1, blk g9 [.int .i64 0, .slice none 0 0] 43, blk g7 [.int .i64 0, .slice none 0 0] 43, blk g5 [.int .i64 kd, .int .i64 i] 49, blk g3 [.int .i64 m, .slice B M.length c2] 43, blk g1 [.int .i64 n, .slice A L.length c] 43, row B M.length c2 (ci .i64 M) 3 1] := HS.join (F := [row A L.length c (ci .i64 L) 3 1]) (G := [row A20 ((delL L i).length) c21 (ci .i64 (delL L i)) 3 1]) H_
      clear H_
      refine ql (.tuple #[.agg #[.int .i64 n, .slice A20 ((delL L i).length) c21], .bool (delB L i)]) (by kernel_rfl) (by kernel_rfl) ?_
      refine ql (.agg #[.int .i64 n, .slice A20 ((delL L i).length) c21]) (by kernel_rfl) (by kernel_rfl) ?_
      refine ql (.bool (delB L i)) (by kernel_rfl) (by kernel_rfl) ?_
      refine ks (v := .agg #[.int .i64 n, .slice A20 ((delL L i).length) c21]) HS 5 rfl (0) [.int .i64 n, .slice A20 ((delL L i).length) c21] (by kernel_rfl) (by kernel_rfl) (by kernel_rfl) (by kernel_rfl) (by kernel_rfl) (one_ (by kernel_rfl)) (Nat.le_of_ble_eq_true rfl) rfl ?_
      intro W23 H_
      replace HS : St W M_ W23 [row A20 ((delL L i).length) c21 (ci .i64 (delL L i)) 3 1, blk g9 [.int .i64 0, .slice none 0 0] 43, blk g7 [.int .i64 0, .slice none 0 0] 43, blk g5 [.int .i64 kd, .int .i64 i] 49, blk g3 [.int .i64 m, .slice B M.length c2] 43, blk g1 [.int .i64 n, .slice A20 ((delL L i).length) c21] 43, row B M.length c2 (ci .i64 M) 3 1] := H_
      clear H_
      refine ql (.bool (delB L i)) (by kernel_rfl) (by kernel_rfl) ?_
      refine wpList_nil ?_
      refine x_inb ?_
      refine x_then ?_
      refine wp_seq ?_
      refine t_start HS (fun k_ => (blk g9 [.int .i64 0, .slice none 0 0] 43).own k_ ∨ (blk g7 [.int .i64 0, .slice none 0 0] 43).own k_) 6 (by kernel_rfl) rfl ?_
      intro W24 H_ HD_
      clear HD_
      replace HS : St W M_ W24 [row A20 ((delL L i).length) c21 (ci .i64 (delL L i)) 3 1, blk g9 [.int .i64 0, .slice none 0 0] 43, blk g7 [.int .i64 0, .slice none 0 0] 43, blk g5 [.int .i64 kd, .int .i64 i] 49, blk g3 [.int .i64 m, .slice B M.length c2] 43, blk g1 [.int .i64 n, .slice A20 ((delL L i).length) c21] 43, row B M.length c2 (ci .i64 M) 3 1] := H_
      clear H_
      have HV := HS
      have HK := Kpt.refl (fun k_ => (blk g9 [.int .i64 0, .slice none 0 0] 43).own k_ ∨ (blk g7 [.int .i64 0, .slice none 0 0] 43).own k_) W24
      refine t_q (n := 5) 0 (.agg #[.int .i64 n, .slice A20 ((delL L i).length) c21]) rfl (by kernel_rfl) (by kernel_rfl) (fun _ _ _ h => h) (fun w' hk => (R_loadN (p := ⟨g1, 0, none⟩) [.int .i64 n, .slice A20 ((delL L i).length) c21] (by kernel_rfl) (by kernel_rfl) (by kernel_rfl) (by kernel_rfl) (two_at (hk.cellN (fun h_ => h_.elim (HV.sepB (a := 5) (b := 1) (by decide) rfl rfl) (HV.sepB (a := 5) (b := 2) (by decide) rfl rfl)) (HV.cell (i := 5) (j := 0) rfl rfl)) (hk.cellN (fun h_ => h_.elim (HV.sepB (a := 5) (b := 1) (by decide) rfl rfl) (HV.sepB (a := 5) (b := 2) (by decide) rfl rfl)) (HV.cell (i := 5) (j := 1) rfl rfl))))) HK ?_
      refine t_q (n := 4) 1 (.agg #[.int .i64 m, .slice B M.length c2]) rfl (by kernel_rfl) (by kernel_rfl) (fun _ _ _ h => h) (fun w' hk => (R_loadN (p := ⟨g3, 0, none⟩) [.int .i64 m, .slice B M.length c2] (by kernel_rfl) (by kernel_rfl) (by kernel_rfl) (by kernel_rfl) (two_at (hk.cellN (fun h_ => h_.elim (HV.sepB (a := 4) (b := 1) (by decide) rfl rfl) (HV.sepB (a := 4) (b := 2) (by decide) rfl rfl)) (HV.cell (i := 4) (j := 0) rfl rfl)) (hk.cellN (fun h_ => h_.elim (HV.sepB (a := 4) (b := 1) (by decide) rfl rfl) (HV.sepB (a := 4) (b := 2) (by decide) rfl rfl)) (HV.cell (i := 4) (j := 1) rfl rfl))))) HK ?_
      refine t_q (n := 3) 2 (.bool (delB L i)) rfl (by kernel_rfl) (by kernel_rfl) (fun _ _ _ h => h) (fun w' hk => (by kernel_rfl)) HK ?_
      obtain ⟨W25, hrun_, H_, hk_⟩ := ex_ks (P := Try.prog) (ty := 0) (ps := "ref.go:105") (af := #[{ on := 0, ground := Go.Ground.data }, { on := 0, ground := Go.Ground.phase }, { on := 1, ground := (Go.Ground.textOnly Go.Departure.lateStores) }, { on := 2, ground := (Go.Ground.textOnly Go.Departure.lateStores) }]) (gd := none) (t := 43) (x := (Go.Operand.tmp 6)) (y := (Go.Operand.tmp 64)) (v := .agg #[.int .i64 n, .slice A20 ((delL L i).length) c21]) HS 2 rfl (0) [.int .i64 n, .slice A20 ((delL L i).length) c21] (by kernel_rfl) (by kernel_rfl) (by kernel_rfl) (by kernel_rfl) (one_ (by kernel_rfl)) (Nat.le_of_ble_eq_true rfl)
      replace HK := HK.trans hk_ (fun _ h_ => .inl (.inr (blk_own h_)))
      refine t_s (n := 2) 3 rfl (by kernel_rfl) (by kernel_rfl) hrun_ HK ?_
      clear hk_ hrun_
      replace HS : St W M_ W25 [row A20 ((delL L i).length) c21 (ci .i64 (delL L i)) 3 1, blk g9 [.int .i64 0, .slice none 0 0] 43, blk g7 [.int .i64 n, .slice A20 ((delL L i).length) c21] 43, blk g5 [.int .i64 kd, .int .i64 i] 49, blk g3 [.int .i64 m, .slice B M.length c2] 43, blk g1 [.int .i64 n, .slice A20 ((delL L i).length) c21] 43, row B M.length c2 (ci .i64 M) 3 1] := H_
      clear H_
      obtain ⟨W26, hrun_, H_, hk_⟩ := ex_ks (P := Try.prog) (ty := 0) (ps := "ref.go:105") (af := #[{ on := 1, ground := Go.Ground.data }, { on := 3, ground := Go.Ground.chain }, { on := 0, ground := Go.Ground.phase }, { on := 1, ground := Go.Ground.phase }, { on := 2, ground := (Go.Ground.textOnly Go.Departure.lateStores) }, { on := 3, ground := Go.Ground.phase }]) (gd := none) (t := 43) (x := (Go.Operand.tmp 7)) (y := (Go.Operand.tmp 65)) (v := .agg #[.int .i64 m, .slice B M.length c2]) HS 1 rfl (0) [.int .i64 m, .slice B M.length c2] (by kernel_rfl) (by kernel_rfl) (by kernel_rfl) (by kernel_rfl) (one_ (by kernel_rfl)) (Nat.le_of_ble_eq_true rfl)
      replace HK := HK.trans hk_ (fun _ h_ => .inl (.inl (blk_own h_)))
      refine t_s (n := 1) 4 rfl (by kernel_rfl) (by kernel_rfl) hrun_ HK ?_
      clear hk_ hrun_
      replace HS : St W M_ W26 [row A20 ((delL L i).length) c21 (ci .i64 (delL L i)) 3 1, blk g9 [.int .i64 m, .slice B M.length c2] 43, blk g7 [.int .i64 n, .slice A20 ((delL L i).length) c21] 43, blk g5 [.int .i64 kd, .int .i64 i] 49, blk g3 [.int .i64 m, .slice B M.length c2] 43, blk g1 [.int .i64 n, .slice A20 ((delL L i).length) c21] 43, row B M.length c2 (ci .i64 M) 3 1] := H_
      clear H_
      refine t_q (n := 0) 5 (.bool (delB L i)) rfl (by kernel_rfl) (by kernel_rfl) (fun _ _ _ h => h) (fun w' hk => (by kernel_rfl)) HK ?_
      refine t_done (by kernel_rfl) ?_
      clear HV HK
      refine x_then ?_
      refine wp_ret ?_
      refine ret_ (.tuple #[.agg #[.int .i64 n, .slice A20 ((delL L i).length) c21], .agg #[.int .i64 m, .slice B M.length c2], .bool (delB L i)]) (res3 rfl (oneRes_agg (p := ⟨g7, 0, none⟩) [.int .i64 n, .slice A20 ((delL L i).length) c21] (by kernel_rfl) (by kernel_rfl) (by kernel_rfl) (by kernel_rfl) (HS.cellsN (i := 2) rfl)) (oneRes_agg (p := ⟨g9, 0, none⟩) [.int .i64 m, .slice B M.length c2] (by kernel_rfl) (by kernel_rfl) (by kernel_rfl) (by kernel_rfl) (HS.cellsN (i := 1) rfl)) (oneRes_t (by kernel_rfl))) ?_
      replace HS : St W M_ W26 [row A20 ((delL L i).length) c21 (ci .i64 (delL L i)) 3 1, row B M.length c2 (ci .i64 M) 3 1] := St.tail (F := [blk g9 [.int .i64 m, .slice B M.length c2] 43, blk g7 [.int .i64 n, .slice A20 ((delL L i).length) c21] 43, blk g5 [.int .i64 kd, .int .i64 i] 49, blk g3 [.int .i64 m, .slice B M.length c2] 43, blk g1 [.int .i64 n, .slice A20 ((delL L i).length) c21] 43]) (HS.perm (perm_ [1, 2, 3, 4, 5, 0, 6] (by kernel_rfl) rfl))
      have esL : sL n m kd i L M = delL L i := by unfold sL; rw [if_neg (show ¬ kd = 0 by omega), if_pos (show kd = 1 by omega)]
      have esM : sM n m kd i L M = M := by unfold sM; rw [if_neg (show ¬ kd = 2 by omega), if_neg (show ¬ kd = 3 by omega), if_neg (show ¬ kd = 5 by omega)]
      have esB : sB n m kd i L M = delB L i := by unfold sB; rw [if_neg (show ¬ kd = 0 by omega), if_pos (show kd = 1 by omega)]
      exact ⟨_, _, _, _, by rw [esL, esM, esB], by rw [esL, esM]; exact HS⟩
    · skip
      refine ql (.bool false) (by kernel_rfl) (R_beq (b := (kd == (1 : Int))) (by kernel_rfl) (beq_f (hc19))) ?_
      refine ql (.bool false) (by kernel_rfl) (by kernel_rfl) ?_
      refine wpList_nil ?_
      refine x_then ?_
      refine wp_cond_false (by kernel_rfl) ?_
      refine wp_seq ?_
      refine wp_region_lit ?_
      by_cases hc27 : kd = (2 : Int)
      · skip
        refine ql (.bool true) (by kernel_rfl) (R_beq (b := (kd == (2 : Int))) (by kernel_rfl) (beq_t (hc27))) ?_
        refine ql (.bool true) (by kernel_rfl) (by kernel_rfl) ?_
        refine wpList_nil ?_
        refine x_then ?_
        refine wp_cond_true (by kernel_rfl) ?_
        refine wp_region_lit ?_
        refine ql (.agg #[.int .i64 m, .slice B M.length c2]) (by kernel_rfl) (R_loadN (p := ⟨g3, 0, none⟩) [.int .i64 m, .slice B M.length c2] (by kernel_rfl) (by kernel_rfl) (by kernel_rfl) (by kernel_rfl) (two_at (HS.cell (i := 3) (j := 0) rfl rfl) (HS.cell (i := 3) (j := 1) rfl rfl))) ?_
        refine ql (.pointer (some ⟨g5, 1, none⟩)) (by kernel_rfl) (by kernel_rfl) ?_
        refine ql (.int .i64 i) (by kernel_rfl) (R_load (p := ⟨g5, 1, none⟩) (by kernel_rfl) (by kernel_rfl) (by kernel_rfl) (HS.cell (i := 2) (j := 1) rfl rfl)) ?_
        refine qc (f := 60) (args := #[.agg #[.int .i64 m, .slice B M.length c2], .int .i64 i]) (by kernel_rfl) (R_call #[.agg #[.int .i64 m, .slice B M.length c2], .int .i64 i] Try.func60 (by kernel_rfl) (by kernel_rfl) (by kernel_rfl)) ?_
        replace HS : St W M_ W10 [row B M.length c2 (ci .i64 M) 3 1, blk g9 [.int .i64 0, .slice none 0 0] 43, blk g7 [.int .i64 0, .slice none 0 0] 43, blk g5 [.int .i64 kd, .int .i64 i] 49, blk g3 [.int .i64 m, .slice B M.length c2] 43, blk g1 [.int .i64 n, .slice A L.length c] 43, row A L.length c (ci .i64 L) 3 1] := HS.perm (perm_ [6, 0, 1, 2, 3, 4, 5] (by kernel_rfl) rfl)
        refine (r3add B c2 M m i _ _ (St.focus (F := [row B M.length c2 (ci .i64 M) 3 1]) HS) (by omega)).mono ?_
        rintro e W30 ⟨A28, c29, rfl, H_⟩
        refine ⟨_, rfl, ?_⟩
        replace HS : St W M_ W30 [row A28 ((addL m M i).length) c29 (ci .i64 (addL m M i)) 3 1, blk g9 [.int .i64 0, .slice none 0 0] 43, blk g7 [.int .i64 0, .slice none 0 0] 43, blk g5 [.int .i64 kd, .int .i64 i] 49, blk g3 [.int .i64 m, .slice B M.length c2] 43, blk g1 [.int .i64 n, .slice A L.length c] 43, row A L.length c (ci .i64 L) 3 1] := HS.join (F := [row B M.length c2 (ci .i64 M) 3 1]) (G := [row A28 ((addL m M i).length) c29 (ci .i64 (addL m M i)) 3 1]) H_
        clear H_
        refine ql (.tuple #[.agg #[.int .i64 m, .slice A28 ((addL m M i).length) c29], .bool (addB m M i)]) (by kernel_rfl) (by kernel_rfl) ?_
        refine ql (.agg #[.int .i64 m, .slice A28 ((addL m M i).length) c29]) (by kernel_rfl) (by kernel_rfl) ?_
        refine ql (.bool (addB m M i)) (by kernel_rfl) (by kernel_rfl) ?_
        refine ks (v := .agg #[.int .i64 m, .slice A28 ((addL m M i).length) c29]) HS 4 rfl (0) [.int .i64 m, .slice A28 ((addL m M i).length) c29] (by kernel_rfl) (by kernel_rfl) (by kernel_rfl) (by kernel_rfl) (by kernel_rfl) (one_ (by kernel_rfl)) (Nat.le_of_ble_eq_true rfl) rfl ?_
        intro W31 H_
        replace HS : St W M_ W31 [row A28 ((addL m M i).length) c29 (ci .i64 (addL m M i)) 3 1, blk g9 [.int .i64 0, .slice none 0 0] 43, blk g7 [.int .i64 0, .slice none 0 0] 43, blk g5 [.int .i64 kd, .int .i64 i] 49, blk g3 [.int .i64 m, .slice A28 ((addL m M i).length) c29] 43, blk g1 [.int .i64 n, .slice A L.length c] 43, row A L.length c (ci .i64 L) 3 1] := H_
        clear H_
        refine ql (.bool (addB m M i)) (by kernel_rfl) (by kernel_rfl) ?_
        refine wpList_nil ?_
        refine x_inb ?_
        refine x_then ?_
        refine wp_seq ?_
        refine t_start HS (fun k_ => (blk g9 [.int .i64 0, .slice none 0 0] 43).own k_ ∨ (blk g7 [.int .i64 0, .slice none 0 0] 43).own k_) 6 (by kernel_rfl) rfl ?_
        intro W32 H_ HD_
        clear HD_
        replace HS : St W M_ W32 [row A28 ((addL m M i).length) c29 (ci .i64 (addL m M i)) 3 1, blk g9 [.int .i64 0, .slice none 0 0] 43, blk g7 [.int .i64 0, .slice none 0 0] 43, blk g5 [.int .i64 kd, .int .i64 i] 49, blk g3 [.int .i64 m, .slice A28 ((addL m M i).length) c29] 43, blk g1 [.int .i64 n, .slice A L.length c] 43, row A L.length c (ci .i64 L) 3 1] := H_
        clear H_
        have HV := HS
        have HK := Kpt.refl (fun k_ => (blk g9 [.int .i64 0, .slice none 0 0] 43).own k_ ∨ (blk g7 [.int .i64 0, .slice none 0 0] 43).own k_) W32
        refine t_q (n := 5) 0 (.agg #[.int .i64 n, .slice A L.length c]) rfl (by kernel_rfl) (by kernel_rfl) (fun _ _ _ h => h) (fun w' hk => (R_loadN (p := ⟨g1, 0, none⟩) [.int .i64 n, .slice A L.length c] (by kernel_rfl) (by kernel_rfl) (by kernel_rfl) (by kernel_rfl) (two_at (hk.cellN (fun h_ => h_.elim (HV.sepB (a := 5) (b := 1) (by decide) rfl rfl) (HV.sepB (a := 5) (b := 2) (by decide) rfl rfl)) (HV.cell (i := 5) (j := 0) rfl rfl)) (hk.cellN (fun h_ => h_.elim (HV.sepB (a := 5) (b := 1) (by decide) rfl rfl) (HV.sepB (a := 5) (b := 2) (by decide) rfl rfl)) (HV.cell (i := 5) (j := 1) rfl rfl))))) HK ?_
        refine t_q (n := 4) 1 (.agg #[.int .i64 m, .slice A28 ((addL m M i).length) c29]) rfl (by kernel_rfl) (by kernel_rfl) (fun _ _ _ h => h) (fun w' hk => (R_loadN (p := ⟨g3, 0, none⟩) [.int .i64 m, .slice A28 ((addL m M i).length) c29] (by kernel_rfl) (by kernel_rfl) (by kernel_rfl) (by kernel_rfl) (two_at (hk.cellN (fun h_ => h_.elim (HV.sepB (a := 4) (b := 1) (by decide) rfl rfl) (HV.sepB (a := 4) (b := 2) (by decide) rfl rfl)) (HV.cell (i := 4) (j := 0) rfl rfl)) (hk.cellN (fun h_ => h_.elim (HV.sepB (a := 4) (b := 1) (by decide) rfl rfl) (HV.sepB (a := 4) (b := 2) (by decide) rfl rfl)) (HV.cell (i := 4) (j := 1) rfl rfl))))) HK ?_
        refine t_q (n := 3) 2 (.bool (addB m M i)) rfl (by kernel_rfl) (by kernel_rfl) (fun _ _ _ h => h) (fun w' hk => (by kernel_rfl)) HK ?_
        obtain ⟨W33, hrun_, H_, hk_⟩ := ex_ks (P := Try.prog) (ty := 0) (ps := "ref.go:105") (af := #[{ on := 0, ground := Go.Ground.data }, { on := 0, ground := Go.Ground.phase }, { on := 1, ground := (Go.Ground.textOnly Go.Departure.lateStores) }, { on := 2, ground := (Go.Ground.textOnly Go.Departure.lateStores) }]) (gd := none) (t := 43) (x := (Go.Operand.tmp 6)) (y := (Go.Operand.tmp 64)) (v := .agg #[.int .i64 n, .slice A L.length c]) HS 2 rfl (0) [.int .i64 n, .slice A L.length c] (by kernel_rfl) (by kernel_rfl) (by kernel_rfl) (by kernel_rfl) (one_ (by kernel_rfl)) (Nat.le_of_ble_eq_true rfl)
        replace HK := HK.trans hk_ (fun _ h_ => .inl (.inr (blk_own h_)))
        refine t_s (n := 2) 3 rfl (by kernel_rfl) (by kernel_rfl) hrun_ HK ?_
        clear hk_ hrun_
        replace HS : St W M_ W33 [row A28 ((addL m M i).length) c29 (ci .i64 (addL m M i)) 3 1, blk g9 [.int .i64 0, .slice none 0 0] 43, blk g7 [.int .i64 n, .slice A L.length c] 43, blk g5 [.int .i64 kd, .int .i64 i] 49, blk g3 [.int .i64 m, .slice A28 ((addL m M i).length) c29] 43, blk g1 [.int .i64 n, .slice A L.length c] 43, row A L.length c (ci .i64 L) 3 1] := H_
        clear H_
        obtain ⟨W34, hrun_, H_, hk_⟩ := ex_ks (P := Try.prog) (ty := 0) (ps := "ref.go:105") (af := #[{ on := 1, ground := Go.Ground.data }, { on := 3, ground := Go.Ground.chain }, { on := 0, ground := Go.Ground.phase }, { on := 1, ground := Go.Ground.phase }, { on := 2, ground := (Go.Ground.textOnly Go.Departure.lateStores) }, { on := 3, ground := Go.Ground.phase }]) (gd := none) (t := 43) (x := (Go.Operand.tmp 7)) (y := (Go.Operand.tmp 65)) (v := .agg #[.int .i64 m, .slice A28 ((addL m M i).length) c29]) HS 1 rfl (0) [.int .i64 m, .slice A28 ((addL m M i).length) c29] (by kernel_rfl) (by kernel_rfl) (by kernel_rfl) (by kernel_rfl) (one_ (by kernel_rfl)) (Nat.le_of_ble_eq_true rfl)
        replace HK := HK.trans hk_ (fun _ h_ => .inl (.inl (blk_own h_)))
        refine t_s (n := 1) 4 rfl (by kernel_rfl) (by kernel_rfl) hrun_ HK ?_
        clear hk_ hrun_
        replace HS : St W M_ W34 [row A28 ((addL m M i).length) c29 (ci .i64 (addL m M i)) 3 1, blk g9 [.int .i64 m, .slice A28 ((addL m M i).length) c29] 43, blk g7 [.int .i64 n, .slice A L.length c] 43, blk g5 [.int .i64 kd, .int .i64 i] 49, blk g3 [.int .i64 m, .slice A28 ((addL m M i).length) c29] 43, blk g1 [.int .i64 n, .slice A L.length c] 43, row A L.length c (ci .i64 L) 3 1] := H_
        clear H_
        refine t_q (n := 0) 5 (.bool (addB m M i)) rfl (by kernel_rfl) (by kernel_rfl) (fun _ _ _ h => h) (fun w' hk => (by kernel_rfl)) HK ?_
        refine t_done (by kernel_rfl) ?_
        clear HV HK
        refine x_then ?_
        refine wp_ret ?_
        refine ret_ (.tuple #[.agg #[.int .i64 n, .slice A L.length c], .agg #[.int .i64 m, .slice A28 ((addL m M i).length) c29], .bool (addB m M i)]) (res3 rfl (oneRes_agg (p := ⟨g7, 0, none⟩) [.int .i64 n, .slice A L.length c] (by kernel_rfl) (by kernel_rfl) (by kernel_rfl) (by kernel_rfl) (HS.cellsN (i := 2) rfl)) (oneRes_agg (p := ⟨g9, 0, none⟩) [.int .i64 m, .slice A28 ((addL m M i).length) c29] (by kernel_rfl) (by kernel_rfl) (by kernel_rfl) (by kernel_rfl) (HS.cellsN (i := 1) rfl)) (oneRes_t (by kernel_rfl))) ?_
        replace HS : St W M_ W34 [row A L.length c (ci .i64 L) 3 1, row A28 ((addL m M i).length) c29 (ci .i64 (addL m M i)) 3 1] := St.tail (F := [blk g9 [.int .i64 m, .slice A28 ((addL m M i).length) c29] 43, blk g7 [.int .i64 n, .slice A L.length c] 43, blk g5 [.int .i64 kd, .int .i64 i] 49, blk g3 [.int .i64 m, .slice A28 ((addL m M i).length) c29] 43, blk g1 [.int .i64 n, .slice A L.length c] 43]) (HS.perm (perm_ [1, 2, 3, 4, 5, 6, 0] (by kernel_rfl) rfl))
        have esL : sL n m kd i L M = L := by unfold sL; rw [if_neg (show ¬ kd = 0 by omega), if_neg (show ¬ kd = 1 by omega), if_neg (show ¬ kd = 4 by omega)]
        have esM : sM n m kd i L M = addL m M i := by unfold sM; rw [if_pos (show kd = 2 by omega)]
        have esB : sB n m kd i L M = addB m M i := by unfold sB; rw [if_neg (show ¬ kd = 0 by omega), if_neg (show ¬ kd = 1 by omega), if_pos (show kd = 2 by omega)]
        exact ⟨_, _, _, _, by rw [esL, esM, esB], by rw [esL, esM]; exact HS⟩
      · skip
        refine ql (.bool false) (by kernel_rfl) (R_beq (b := (kd == (2 : Int))) (by kernel_rfl) (beq_f (hc27))) ?_
        refine ql (.bool false) (by kernel_rfl) (by kernel_rfl) ?_
        refine wpList_nil ?_
        refine x_then ?_
        refine wp_cond_false (by kernel_rfl) ?_
        refine wp_seq ?_
        refine wp_region_lit ?_
        by_cases hc35 : kd = (3 : Int)
        · skip
          refine ql (.bool true) (by kernel_rfl) (R_beq (b := (kd == (3 : Int))) (by kernel_rfl) (beq_t (hc35))) ?_
          refine ql (.bool true) (by kernel_rfl) (by kernel_rfl) ?_
          refine wpList_nil ?_
          refine x_then ?_
          refine wp_cond_true (by kernel_rfl) ?_
          refine wp_region_lit ?_
          refine ql (.agg #[.int .i64 m, .slice B M.length c2]) (by kernel_rfl) (R_loadN (p := ⟨g3, 0, none⟩) [.int .i64 m, .slice B M.length c2] (by kernel_rfl) (by kernel_rfl) (by kernel_rfl) (by kernel_rfl) (two_at (HS.cell (i := 3) (j := 0) rfl rfl) (HS.cell (i := 3) (j := 1) rfl rfl))) ?_
          refine ql (.pointer (some ⟨g5, 1, none⟩)) (by kernel_rfl) (by kernel_rfl) ?_
          refine ql (.int .i64 i) (by kernel_rfl) (R_load (p := ⟨g5, 1, none⟩) (by kernel_rfl) (by kernel_rfl) (by kernel_rfl) (HS.cell (i := 2) (j := 1) rfl rfl)) ?_
          refine qc (f := 62) (args := #[.agg #[.int .i64 m, .slice B M.length c2], .int .i64 i]) (by kernel_rfl) (R_call #[.agg #[.int .i64 m, .slice B M.length c2], .int .i64 i] Try.func62 (by kernel_rfl) (by kernel_rfl) (by kernel_rfl)) ?_
          replace HS : St W M_ W10 [row B M.length c2 (ci .i64 M) 3 1, blk g9 [.int .i64 0, .slice none 0 0] 43, blk g7 [.int .i64 0, .slice none 0 0] 43, blk g5 [.int .i64 kd, .int .i64 i] 49, blk g3 [.int .i64 m, .slice B M.length c2] 43, blk g1 [.int .i64 n, .slice A L.length c] 43, row A L.length c (ci .i64 L) 3 1] := HS.perm (perm_ [6, 0, 1, 2, 3, 4, 5] (by kernel_rfl) rfl)
          refine (r3del B c2 M m i _ _ (St.focus (F := [row B M.length c2 (ci .i64 M) 3 1]) HS) (by omega)).mono ?_
          rintro e W38 ⟨A36, c37, rfl, H_⟩
          refine ⟨_, rfl, ?_⟩
          replace HS : St W M_ W38 [row A36 ((delL M i).length) c37 (ci .i64 (delL M i)) 3 1, blk g9 [.int .i64 0, .slice none 0 0] 43, blk g7 [.int .i64 0, .slice none 0 0] 43, blk g5 [.int .i64 kd, .int .i64 i] 49, blk g3 [.int .i64 m, .slice B M.length c2] 43, blk g1 [.int .i64 n, .slice A L.length c] 43, row A L.length c (ci .i64 L) 3 1] := HS.join (F := [row B M.length c2 (ci .i64 M) 3 1]) (G := [row A36 ((delL M i).length) c37 (ci .i64 (delL M i)) 3 1]) H_
          clear H_
          refine ql (.tuple #[.agg #[.int .i64 m, .slice A36 ((delL M i).length) c37], .bool (delB M i)]) (by kernel_rfl) (by kernel_rfl) ?_
          refine ql (.agg #[.int .i64 m, .slice A36 ((delL M i).length) c37]) (by kernel_rfl) (by kernel_rfl) ?_
          refine ql (.bool (delB M i)) (by kernel_rfl) (by kernel_rfl) ?_
          refine ks (v := .agg #[.int .i64 m, .slice A36 ((delL M i).length) c37]) HS 4 rfl (0) [.int .i64 m, .slice A36 ((delL M i).length) c37] (by kernel_rfl) (by kernel_rfl) (by kernel_rfl) (by kernel_rfl) (by kernel_rfl) (one_ (by kernel_rfl)) (Nat.le_of_ble_eq_true rfl) rfl ?_
          intro W39 H_
          replace HS : St W M_ W39 [row A36 ((delL M i).length) c37 (ci .i64 (delL M i)) 3 1, blk g9 [.int .i64 0, .slice none 0 0] 43, blk g7 [.int .i64 0, .slice none 0 0] 43, blk g5 [.int .i64 kd, .int .i64 i] 49, blk g3 [.int .i64 m, .slice A36 ((delL M i).length) c37] 43, blk g1 [.int .i64 n, .slice A L.length c] 43, row A L.length c (ci .i64 L) 3 1] := H_
          clear H_
          refine ql (.bool (delB M i)) (by kernel_rfl) (by kernel_rfl) ?_
          refine wpList_nil ?_
          refine x_inb ?_
          refine x_then ?_
          refine wp_seq ?_
          refine t_start HS (fun k_ => (blk g9 [.int .i64 0, .slice none 0 0] 43).own k_ ∨ (blk g7 [.int .i64 0, .slice none 0 0] 43).own k_) 6 (by kernel_rfl) rfl ?_
          intro W40 H_ HD_
          clear HD_
          replace HS : St W M_ W40 [row A36 ((delL M i).length) c37 (ci .i64 (delL M i)) 3 1, blk g9 [.int .i64 0, .slice none 0 0] 43, blk g7 [.int .i64 0, .slice none 0 0] 43, blk g5 [.int .i64 kd, .int .i64 i] 49, blk g3 [.int .i64 m, .slice A36 ((delL M i).length) c37] 43, blk g1 [.int .i64 n, .slice A L.length c] 43, row A L.length c (ci .i64 L) 3 1] := H_
          clear H_
          have HV := HS
          have HK := Kpt.refl (fun k_ => (blk g9 [.int .i64 0, .slice none 0 0] 43).own k_ ∨ (blk g7 [.int .i64 0, .slice none 0 0] 43).own k_) W40
          refine t_q (n := 5) 0 (.agg #[.int .i64 n, .slice A L.length c]) rfl (by kernel_rfl) (by kernel_rfl) (fun _ _ _ h => h) (fun w' hk => (R_loadN (p := ⟨g1, 0, none⟩) [.int .i64 n, .slice A L.length c] (by kernel_rfl) (by kernel_rfl) (by kernel_rfl) (by kernel_rfl) (two_at (hk.cellN (fun h_ => h_.elim (HV.sepB (a := 5) (b := 1) (by decide) rfl rfl) (HV.sepB (a := 5) (b := 2) (by decide) rfl rfl)) (HV.cell (i := 5) (j := 0) rfl rfl)) (hk.cellN (fun h_ => h_.elim (HV.sepB (a := 5) (b := 1) (by decide) rfl rfl) (HV.sepB (a := 5) (b := 2) (by decide) rfl rfl)) (HV.cell (i := 5) (j := 1) rfl rfl))))) HK ?_
          refine t_q (n := 4) 1 (.agg #[.int .i64 m, .slice A36 ((delL M i).length) c37]) rfl (by kernel_rfl) (by kernel_rfl) (fun _ _ _ h => h) (fun w' hk => (R_loadN (p := ⟨g3, 0, none⟩) [.int .i64 m, .slice A36 ((delL M i).length) c37] (by kernel_rfl) (by kernel_rfl) (by kernel_rfl) (by kernel_rfl) (two_at (hk.cellN (fun h_ => h_.elim (HV.sepB (a := 4) (b := 1) (by decide) rfl rfl) (HV.sepB (a := 4) (b := 2) (by decide) rfl rfl)) (HV.cell (i := 4) (j := 0) rfl rfl)) (hk.cellN (fun h_ => h_.elim (HV.sepB (a := 4) (b := 1) (by decide) rfl rfl) (HV.sepB (a := 4) (b := 2) (by decide) rfl rfl)) (HV.cell (i := 4) (j := 1) rfl rfl))))) HK ?_
          refine t_q (n := 3) 2 (.bool (delB M i)) rfl (by kernel_rfl) (by kernel_rfl) (fun _ _ _ h => h) (fun w' hk => (by kernel_rfl)) HK ?_
          obtain ⟨W41, hrun_, H_, hk_⟩ := ex_ks (P := Try.prog) (ty := 0) (ps := "ref.go:105") (af := #[{ on := 0, ground := Go.Ground.data }, { on := 0, ground := Go.Ground.phase }, { on := 1, ground := (Go.Ground.textOnly Go.Departure.lateStores) }, { on := 2, ground := (Go.Ground.textOnly Go.Departure.lateStores) }]) (gd := none) (t := 43) (x := (Go.Operand.tmp 6)) (y := (Go.Operand.tmp 64)) (v := .agg #[.int .i64 n, .slice A L.length c]) HS 2 rfl (0) [.int .i64 n, .slice A L.length c] (by kernel_rfl) (by kernel_rfl) (by kernel_rfl) (by kernel_rfl) (one_ (by kernel_rfl)) (Nat.le_of_ble_eq_true rfl)
          replace HK := HK.trans hk_ (fun _ h_ => .inl (.inr (blk_own h_)))
          refine t_s (n := 2) 3 rfl (by kernel_rfl) (by kernel_rfl) hrun_ HK ?_
          clear hk_ hrun_
          replace HS : St W M_ W41 [row A36 ((delL M i).length) c37 (ci .i64 (delL M i)) 3 1, blk g9 [.int .i64 0, .slice none 0 0] 43, blk g7 [.int .i64 n, .slice A L.length c] 43, blk g5 [.int .i64 kd, .int .i64 i] 49, blk g3 [.int .i64 m, .slice A36 ((delL M i).length) c37] 43, blk g1 [.int .i64 n, .slice A L.length c] 43, row A L.length c (ci .i64 L) 3 1] := H_
          clear H_
          obtain ⟨W42, hrun_, H_, hk_⟩ := ex_ks (P := Try.prog) (ty := 0) (ps := "ref.go:105") (af := #[{ on := 1, ground := Go.Ground.data }, { on := 3, ground := Go.Ground.chain }, { on := 0, ground := Go.Ground.phase }, { on := 1, ground := Go.Ground.phase }, { on := 2, ground := (Go.Ground.textOnly Go.Departure.lateStores) }, { on := 3, ground := Go.Ground.phase }]) (gd := none) (t := 43) (x := (Go.Operand.tmp 7)) (y := (Go.Operand.tmp 65)) (v := .agg #[.int .i64 m, .slice A36 ((delL M i).length) c37]) HS 1 rfl (0) [.int .i64 m, .slice A36 ((delL M i).length) c37] (by kernel_rfl) (by kernel_rfl) (by kernel_rfl) (by kernel_rfl) (one_ (by kernel_rfl)) (Nat.le_of_ble_eq_true rfl)
          replace HK := HK.trans hk_ (fun _ h_ => .inl (.inl (blk_own h_)))
          refine t_s (n := 1) 4 rfl (by kernel_rfl) (by kernel_rfl) hrun_ HK ?_
          clear hk_ hrun_
          replace HS : St W M_ W42 [row A36 ((delL M i).length) c37 (ci .i64 (delL M i)) 3 1, blk g9 [.int .i64 m, .slice A36 ((delL M i).length) c37] 43, blk g7 [.int .i64 n, .slice A L.length c] 43, blk g5 [.int .i64 kd, .int .i64 i] 49, blk g3 [.int .i64 m, .slice A36 ((delL M i).length) c37] 43, blk g1 [.int .i64 n, .slice A L.length c] 43, row A L.length c (ci .i64 L) 3 1] := H_
          clear H_
          refine t_q (n := 0) 5 (.bool (delB M i)) rfl (by kernel_rfl) (by kernel_rfl) (fun _ _ _ h => h) (fun w' hk => (by kernel_rfl)) HK ?_
          refine t_done (by kernel_rfl) ?_
          clear HV HK
          refine x_then ?_
          refine wp_ret ?_
          refine ret_ (.tuple #[.agg #[.int .i64 n, .slice A L.length c], .agg #[.int .i64 m, .slice A36 ((delL M i).length) c37], .bool (delB M i)]) (res3 rfl (oneRes_agg (p := ⟨g7, 0, none⟩) [.int .i64 n, .slice A L.length c] (by kernel_rfl) (by kernel_rfl) (by kernel_rfl) (by kernel_rfl) (HS.cellsN (i := 2) rfl)) (oneRes_agg (p := ⟨g9, 0, none⟩) [.int .i64 m, .slice A36 ((delL M i).length) c37] (by kernel_rfl) (by kernel_rfl) (by kernel_rfl) (by kernel_rfl) (HS.cellsN (i := 1) rfl)) (oneRes_t (by kernel_rfl))) ?_
          replace HS : St W M_ W42 [row A L.length c (ci .i64 L) 3 1, row A36 ((delL M i).length) c37 (ci .i64 (delL M i)) 3 1] := St.tail (F := [blk g9 [.int .i64 m, .slice A36 ((delL M i).length) c37] 43, blk g7 [.int .i64 n, .slice A L.length c] 43, blk g5 [.int .i64 kd, .int .i64 i] 49, blk g3 [.int .i64 m, .slice A36 ((delL M i).length) c37] 43, blk g1 [.int .i64 n, .slice A L.length c] 43]) (HS.perm (perm_ [1, 2, 3, 4, 5, 6, 0] (by kernel_rfl) rfl))
          have esL : sL n m kd i L M = L := by unfold sL; rw [if_neg (show ¬ kd = 0 by omega), if_neg (show ¬ kd = 1 by omega), if_neg (show ¬ kd = 4 by omega)]
          have esM : sM n m kd i L M = delL M i := by unfold sM; rw [if_neg (show ¬ kd = 2 by omega), if_pos (show kd = 3 by omega)]
          have esB : sB n m kd i L M = delB M i := by unfold sB; rw [if_neg (show ¬ kd = 0 by omega), if_neg (show ¬ kd = 1 by omega), if_neg (show ¬ kd = 2 by omega), if_pos (show kd = 3 by omega)]
          exact ⟨_, _, _, _, by rw [esL, esM, esB], by rw [esL, esM]; exact HS⟩
        · skip
          refine ql (.bool false) (by kernel_rfl) (R_beq (b := (kd == (3 : Int))) (by kernel_rfl) (beq_f (hc35))) ?_
          refine ql (.bool false) (by kernel_rfl) (by kernel_rfl) ?_
          refine wpList_nil ?_
          refine x_then ?_
          refine wp_cond_false (by kernel_rfl) ?_
          refine wp_seq ?_
          refine wp_region_lit ?_
          by_cases hc43 : kd = (4 : Int)
          · skip
            refine ql (.bool true) (by kernel_rfl) (R_beq (b := (kd == (4 : Int))) (by kernel_rfl) (beq_t (hc43))) ?_
            refine ql (.bool true) (by kernel_rfl) (by kernel_rfl) ?_
            refine wpList_nil ?_
            refine x_then ?_
            refine wp_cond_true (by kernel_rfl) ?_
            refine wp_region_lit ?_
            refine ql (.agg #[.int .i64 n, .slice A L.length c]) (by kernel_rfl) (R_loadN (p := ⟨g1, 0, none⟩) [.int .i64 n, .slice A L.length c] (by kernel_rfl) (by kernel_rfl) (by kernel_rfl) (by kernel_rfl) (two_at (HS.cell (i := 4) (j := 0) rfl rfl) (HS.cell (i := 4) (j := 1) rfl rfl))) ?_
            refine ql (.agg #[.int .i64 m, .slice B M.length c2]) (by kernel_rfl) (R_loadN (p := ⟨g3, 0, none⟩) [.int .i64 m, .slice B M.length c2] (by kernel_rfl) (by kernel_rfl) (by kernel_rfl) (by kernel_rfl) (two_at (HS.cell (i := 3) (j := 0) rfl rfl) (HS.cell (i := 3) (j := 1) rfl rfl))) ?_
            refine qc (f := 63) (args := #[.agg #[.int .i64 n, .slice A L.length c], .agg #[.int .i64 m, .slice B M.length c2]]) (by kernel_rfl) (R_call #[.agg #[.int .i64 n, .slice A L.length c], .agg #[.int .i64 m, .slice B M.length c2]] Try.func63 (by kernel_rfl) (by kernel_rfl) (by kernel_rfl)) ?_
            replace HS : St W M_ W10 [row A L.length c (ci .i64 L) 3 1, row B M.length c2 (ci .i64 M) 3 1, blk g9 [.int .i64 0, .slice none 0 0] 43, blk g7 [.int .i64 0, .slice none 0 0] 43, blk g5 [.int .i64 kd, .int .i64 i] 49, blk g3 [.int .i64 m, .slice B M.length c2] 43, blk g1 [.int .i64 n, .slice A L.length c] 43] := HS.perm (perm_ [5, 6, 0, 1, 2, 3, 4] (by kernel_rfl) rfl)
            by_cases hnm0 : n = m
            · skip
              refine (r3or_e2 A c L n B c2 M m _ _ (St.focus (F := [row A L.length c (ci .i64 L) 3 1, row B M.length c2 (ci .i64 M) 3 1]) HS) (by omega) (by omega) (by omega) hsM hlM).mono ?_
              rintro e W46 ⟨A44, c45, rfl, H_⟩
              refine ⟨_, rfl, ?_⟩
              replace HS : St W M_ W46 [row A44 ((uni L M).length) c45 (ci .i64 (uni L M)) 3 1, row B M.length c2 (ci .i64 M) 3 1, blk g9 [.int .i64 0, .slice none 0 0] 43, blk g7 [.int .i64 0, .slice none 0 0] 43, blk g5 [.int .i64 kd, .int .i64 i] 49, blk g3 [.int .i64 m, .slice B M.length c2] 43, blk g1 [.int .i64 n, .slice A L.length c] 43] := HS.join (F := [row A L.length c (ci .i64 L) 3 1, row B M.length c2 (ci .i64 M) 3 1]) (G := [row A44 ((uni L M).length) c45 (ci .i64 (uni L M)) 3 1, row B M.length c2 (ci .i64 M) 3 1]) H_
              clear H_
              refine ql (.tuple #[.agg #[.int .i64 n, .slice A44 ((uni L M).length) c45], .bool (newB L M)]) (by kernel_rfl) (by kernel_rfl) ?_
              refine ql (.agg #[.int .i64 n, .slice A44 ((uni L M).length) c45]) (by kernel_rfl) (by kernel_rfl) ?_
              refine ql (.bool (newB L M)) (by kernel_rfl) (by kernel_rfl) ?_
              refine ks (v := .agg #[.int .i64 n, .slice A44 ((uni L M).length) c45]) HS 6 rfl (0) [.int .i64 n, .slice A44 ((uni L M).length) c45] (by kernel_rfl) (by kernel_rfl) (by kernel_rfl) (by kernel_rfl) (by kernel_rfl) (one_ (by kernel_rfl)) (Nat.le_of_ble_eq_true rfl) rfl ?_
              intro W47 H_
              replace HS : St W M_ W47 [row A44 ((uni L M).length) c45 (ci .i64 (uni L M)) 3 1, row B M.length c2 (ci .i64 M) 3 1, blk g9 [.int .i64 0, .slice none 0 0] 43, blk g7 [.int .i64 0, .slice none 0 0] 43, blk g5 [.int .i64 kd, .int .i64 i] 49, blk g3 [.int .i64 m, .slice B M.length c2] 43, blk g1 [.int .i64 n, .slice A44 ((uni L M).length) c45] 43] := H_
              clear H_
              refine ql (.bool (newB L M)) (by kernel_rfl) (by kernel_rfl) ?_
              refine wpList_nil ?_
              refine x_inb ?_
              refine x_then ?_
              refine wp_seq ?_
              refine t_start HS (fun k_ => (blk g9 [.int .i64 0, .slice none 0 0] 43).own k_ ∨ (blk g7 [.int .i64 0, .slice none 0 0] 43).own k_) 6 (by kernel_rfl) rfl ?_
              intro W48 H_ HD_
              clear HD_
              replace HS : St W M_ W48 [row A44 ((uni L M).length) c45 (ci .i64 (uni L M)) 3 1, row B M.length c2 (ci .i64 M) 3 1, blk g9 [.int .i64 0, .slice none 0 0] 43, blk g7 [.int .i64 0, .slice none 0 0] 43, blk g5 [.int .i64 kd, .int .i64 i] 49, blk g3 [.int .i64 m, .slice B M.length c2] 43, blk g1 [.int .i64 n, .slice A44 ((uni L M).length) c45] 43] := H_
              clear H_
              have HV := HS
              have HK := Kpt.refl (fun k_ => (blk g9 [.int .i64 0, .slice none 0 0] 43).own k_ ∨ (blk g7 [.int .i64 0, .slice none 0 0] 43).own k_) W48
              refine t_q (n := 5) 0 (.agg #[.int .i64 n, .slice A44 ((uni L M).length) c45]) rfl (by kernel_rfl) (by kernel_rfl) (fun _ _ _ h => h) (fun w' hk => (R_loadN (p := ⟨g1, 0, none⟩) [.int .i64 n, .slice A44 ((uni L M).length) c45] (by kernel_rfl) (by kernel_rfl) (by kernel_rfl) (by kernel_rfl) (two_at (hk.cellN (fun h_ => h_.elim (HV.sepB (a := 6) (b := 2) (by decide) rfl rfl) (HV.sepB (a := 6) (b := 3) (by decide) rfl rfl)) (HV.cell (i := 6) (j := 0) rfl rfl)) (hk.cellN (fun h_ => h_.elim (HV.sepB (a := 6) (b := 2) (by decide) rfl rfl) (HV.sepB (a := 6) (b := 3) (by decide) rfl rfl)) (HV.cell (i := 6) (j := 1) rfl rfl))))) HK ?_
              refine t_q (n := 4) 1 (.agg #[.int .i64 m, .slice B M.length c2]) rfl (by kernel_rfl) (by kernel_rfl) (fun _ _ _ h => h) (fun w' hk => (R_loadN (p := ⟨g3, 0, none⟩) [.int .i64 m, .slice B M.length c2] (by kernel_rfl) (by kernel_rfl) (by kernel_rfl) (by kernel_rfl) (two_at (hk.cellN (fun h_ => h_.elim (HV.sepB (a := 5) (b := 2) (by decide) rfl rfl) (HV.sepB (a := 5) (b := 3) (by decide) rfl rfl)) (HV.cell (i := 5) (j := 0) rfl rfl)) (hk.cellN (fun h_ => h_.elim (HV.sepB (a := 5) (b := 2) (by decide) rfl rfl) (HV.sepB (a := 5) (b := 3) (by decide) rfl rfl)) (HV.cell (i := 5) (j := 1) rfl rfl))))) HK ?_
              refine t_q (n := 3) 2 (.bool (newB L M)) rfl (by kernel_rfl) (by kernel_rfl) (fun _ _ _ h => h) (fun w' hk => (by kernel_rfl)) HK ?_
              obtain ⟨W49, hrun_, H_, hk_⟩ := ex_ks (P := Try.prog) (ty := 0) (ps := "ref.go:105") (af := #[{ on := 0, ground := Go.Ground.data }, { on := 0, ground := Go.Ground.phase }, { on := 1, ground := (Go.Ground.textOnly Go.Departure.lateStores) }, { on := 2, ground := (Go.Ground.textOnly Go.Departure.lateStores) }]) (gd := none) (t := 43) (x := (Go.Operand.tmp 6)) (y := (Go.Operand.tmp 64)) (v := .agg #[.int .i64 n, .slice A44 ((uni L M).length) c45]) HS 3 rfl (0) [.int .i64 n, .slice A44 ((uni L M).length) c45] (by kernel_rfl) (by kernel_rfl) (by kernel_rfl) (by kernel_rfl) (one_ (by kernel_rfl)) (Nat.le_of_ble_eq_true rfl)
              replace HK := HK.trans hk_ (fun _ h_ => .inl (.inr (blk_own h_)))
              refine t_s (n := 2) 3 rfl (by kernel_rfl) (by kernel_rfl) hrun_ HK ?_
              clear hk_ hrun_
              replace HS : St W M_ W49 [row A44 ((uni L M).length) c45 (ci .i64 (uni L M)) 3 1, row B M.length c2 (ci .i64 M) 3 1, blk g9 [.int .i64 0, .slice none 0 0] 43, blk g7 [.int .i64 n, .slice A44 ((uni L M).length) c45] 43, blk g5 [.int .i64 kd, .int .i64 i] 49, blk g3 [.int .i64 m, .slice B M.length c2] 43, blk g1 [.int .i64 n, .slice A44 ((uni L M).length) c45] 43] := H_
              clear H_
              obtain ⟨W50, hrun_, H_, hk_⟩ := ex_ks (P := Try.prog) (ty := 0) (ps := "ref.go:105") (af := #[{ on := 1, ground := Go.Ground.data }, { on := 3, ground := Go.Ground.chain }, { on := 0, ground := Go.Ground.phase }, { on := 1, ground := Go.Ground.phase }, { on := 2, ground := (Go.Ground.textOnly Go.Departure.lateStores) }, { on := 3, ground := Go.Ground.phase }]) (gd := none) (t := 43) (x := (Go.Operand.tmp 7)) (y := (Go.Operand.tmp 65)) (v := .agg #[.int .i64 m, .slice B M.length c2]) HS 2 rfl (0) [.int .i64 m, .slice B M.length c2] (by kernel_rfl) (by kernel_rfl) (by kernel_rfl) (by kernel_rfl) (one_ (by kernel_rfl)) (Nat.le_of_ble_eq_true rfl)
              replace HK := HK.trans hk_ (fun _ h_ => .inl (.inl (blk_own h_)))
              refine t_s (n := 1) 4 rfl (by kernel_rfl) (by kernel_rfl) hrun_ HK ?_
              clear hk_ hrun_
              replace HS : St W M_ W50 [row A44 ((uni L M).length) c45 (ci .i64 (uni L M)) 3 1, row B M.length c2 (ci .i64 M) 3 1, blk g9 [.int .i64 m, .slice B M.length c2] 43, blk g7 [.int .i64 n, .slice A44 ((uni L M).length) c45] 43, blk g5 [.int .i64 kd, .int .i64 i] 49, blk g3 [.int .i64 m, .slice B M.length c2] 43, blk g1 [.int .i64 n, .slice A44 ((uni L M).length) c45] 43] := H_
              clear H_
              refine t_q (n := 0) 5 (.bool (newB L M)) rfl (by kernel_rfl) (by kernel_rfl) (fun _ _ _ h => h) (fun w' hk => (by kernel_rfl)) HK ?_
              refine t_done (by kernel_rfl) ?_
              clear HV HK
              refine x_then ?_
              refine wp_ret ?_
              refine ret_ (.tuple #[.agg #[.int .i64 n, .slice A44 ((uni L M).length) c45], .agg #[.int .i64 m, .slice B M.length c2], .bool (newB L M)]) (res3 rfl (oneRes_agg (p := ⟨g7, 0, none⟩) [.int .i64 n, .slice A44 ((uni L M).length) c45] (by kernel_rfl) (by kernel_rfl) (by kernel_rfl) (by kernel_rfl) (HS.cellsN (i := 3) rfl)) (oneRes_agg (p := ⟨g9, 0, none⟩) [.int .i64 m, .slice B M.length c2] (by kernel_rfl) (by kernel_rfl) (by kernel_rfl) (by kernel_rfl) (HS.cellsN (i := 2) rfl)) (oneRes_t (by kernel_rfl))) ?_
              replace HS : St W M_ W50 [row A44 ((uni L M).length) c45 (ci .i64 (uni L M)) 3 1, row B M.length c2 (ci .i64 M) 3 1] := St.tail (F := [blk g9 [.int .i64 m, .slice B M.length c2] 43, blk g7 [.int .i64 n, .slice A44 ((uni L M).length) c45] 43, blk g5 [.int .i64 kd, .int .i64 i] 49, blk g3 [.int .i64 m, .slice B M.length c2] 43, blk g1 [.int .i64 n, .slice A44 ((uni L M).length) c45] 43]) (HS.perm (perm_ [2, 3, 4, 5, 6, 0, 1] (by kernel_rfl) rfl))
              have esL : sL n m kd i L M = uni L M := by unfold sL; rw [if_neg (show ¬ kd = 0 by omega), if_neg (show ¬ kd = 1 by omega), if_pos (show kd = 4 by omega), if_pos (show n = m by omega)]
              have esM : sM n m kd i L M = M := by unfold sM; rw [if_neg (show ¬ kd = 2 by omega), if_neg (show ¬ kd = 3 by omega), if_neg (show ¬ kd = 5 by omega)]
              have esB : sB n m kd i L M = newB L M := by unfold sB; rw [if_neg (show ¬ kd = 0 by omega), if_neg (show ¬ kd = 1 by omega), if_neg (show ¬ kd = 2 by omega), if_neg (show ¬ kd = 3 by omega), if_pos (show kd = 4 by omega), if_pos (show n = m by omega)]
              exact ⟨_, _, _, _, by rw [esL, esM, esB], by rw [esL, esM]; exact HS⟩
            · skip
              refine (r3or_ne A c L n B c2 M m _ _ (St.focus (F := [row A L.length c (ci .i64 L) 3 1, row B M.length c2 (ci .i64 M) 3 1]) HS) (by omega) (by omega) (by omega)).mono ?_
              rintro e W51 ⟨rfl, H_⟩
              refine ⟨_, rfl, ?_⟩
              replace HS : St W M_ W51 [row A L.length c (ci .i64 L) 3 1, row B M.length c2 (ci .i64 M) 3 1, blk g9 [.int .i64 0, .slice none 0 0] 43, blk g7 [.int .i64 0, .slice none 0 0] 43, blk g5 [.int .i64 kd, .int .i64 i] 49, blk g3 [.int .i64 m, .slice B M.length c2] 43, blk g1 [.int .i64 n, .slice A L.length c] 43] := HS.join (F := [row A L.length c (ci .i64 L) 3 1, row B M.length c2 (ci .i64 M) 3 1]) (G := [row A L.length c (ci .i64 L) 3 1, row B M.length c2 (ci .i64 M) 3 1]) H_
              clear H_
              refine ql (.tuple #[.agg #[.int .i64 n, .slice A L.length c], .bool false]) (by kernel_rfl) (by kernel_rfl) ?_
              refine ql (.agg #[.int .i64 n, .slice A L.length c]) (by kernel_rfl) (by kernel_rfl) ?_
              refine ql (.bool false) (by kernel_rfl) (by kernel_rfl) ?_
              refine ks (v := .agg #[.int .i64 n, .slice A L.length c]) HS 6 rfl (0) [.int .i64 n, .slice A L.length c] (by kernel_rfl) (by kernel_rfl) (by kernel_rfl) (by kernel_rfl) (by kernel_rfl) (one_ (by kernel_rfl)) (Nat.le_of_ble_eq_true rfl) rfl ?_
              intro W52 H_
              replace HS : St W M_ W52 [row A L.length c (ci .i64 L) 3 1, row B M.length c2 (ci .i64 M) 3 1, blk g9 [.int .i64 0, .slice none 0 0] 43, blk g7 [.int .i64 0, .slice none 0 0] 43, blk g5 [.int .i64 kd, .int .i64 i] 49, blk g3 [.int .i64 m, .slice B M.length c2] 43, blk g1 [.int .i64 n, .slice A L.length c] 43] := H_
              clear H_
              refine ql (.bool false) (by kernel_rfl) (by kernel_rfl) ?_
              refine wpList_nil ?_
              refine x_inb ?_
              refine x_then ?_
              refine wp_seq ?_
              refine t_start HS (fun k_ => (blk g9 [.int .i64 0, .slice none 0 0] 43).own k_ ∨ (blk g7 [.int .i64 0, .slice none 0 0] 43).own k_) 6 (by kernel_rfl) rfl ?_
              intro W53 H_ HD_
              clear HD_
              replace HS : St W M_ W53 [row A L.length c (ci .i64 L) 3 1, row B M.length c2 (ci .i64 M) 3 1, blk g9 [.int .i64 0, .slice none 0 0] 43, blk g7 [.int .i64 0, .slice none 0 0] 43, blk g5 [.int .i64 kd, .int .i64 i] 49, blk g3 [.int .i64 m, .slice B M.length c2] 43, blk g1 [.int .i64 n, .slice A L.length c] 43] := H_
              clear H_
              have HV := HS
              have HK := Kpt.refl (fun k_ => (blk g9 [.int .i64 0, .slice none 0 0] 43).own k_ ∨ (blk g7 [.int .i64 0, .slice none 0 0] 43).own k_) W53
              refine t_q (n := 5) 0 (.agg #[.int .i64 n, .slice A L.length c]) rfl (by kernel_rfl) (by kernel_rfl) (fun _ _ _ h => h) (fun w' hk => (R_loadN (p := ⟨g1, 0, none⟩) [.int .i64 n, .slice A L.length c] (by kernel_rfl) (by kernel_rfl) (by kernel_rfl) (by kernel_rfl) (two_at (hk.cellN (fun h_ => h_.elim (HV.sepB (a := 6) (b := 2) (by decide) rfl rfl) (HV.sepB (a := 6) (b := 3) (by decide) rfl rfl)) (HV.cell (i := 6) (j := 0) rfl rfl)) (hk.cellN (fun h_ => h_.elim (HV.sepB (a := 6) (b := 2) (by decide) rfl rfl) (HV.sepB (a := 6) (b := 3) (by decide) rfl rfl)) (HV.cell (i := 6) (j := 1) rfl rfl))))) HK ?_
              refine t_q (n := 4) 1 (.agg #[.int .i64 m, .slice B M.length c2]) rfl (by kernel_rfl) (by kernel_rfl) (fun _ _ _ h => h) (fun w' hk => (R_loadN (p := ⟨g3, 0, none⟩) [.int .i64 m, .slice B M.length c2] (by kernel_rfl) (by kernel_rfl) (by kernel_rfl) (by kernel_rfl) (two_at (hk.cellN (fun h_ => h_.elim (HV.sepB (a := 5) (b := 2) (by decide) rfl rfl) (HV.sepB (a := 5) (b := 3) (by decide) rfl rfl)) (HV.cell (i := 5) (j := 0) rfl rfl)) (hk.cellN (fun h_ => h_.elim (HV.sepB (a := 5) (b := 2) (by decide) rfl rfl) (HV.sepB (a := 5) (b := 3) (by decide) rfl rfl)) (HV.cell (i := 5) (j := 1) rfl rfl))))) HK ?_
              refine t_q (n := 3) 2 (.bool false) rfl (by kernel_rfl) (by kernel_rfl) (fun _ _ _ h => h) (fun w' hk => (by kernel_rfl)) HK ?_
              obtain ⟨W54, hrun_, H_, hk_⟩ := ex_ks (P := Try.prog) (ty := 0) (ps := "ref.go:105") (af := #[{ on := 0, ground := Go.Ground.data }, { on := 0, ground := Go.Ground.phase }, { on := 1, ground := (Go.Ground.textOnly Go.Departure.lateStores) }, { on := 2, ground := (Go.Ground.textOnly Go.Departure.lateStores) }]) (gd := none) (t := 43) (x := (Go.Operand.tmp 6)) (y := (Go.Operand.tmp 64)) (v := .agg #[.int .i64 n, .slice A L.length c]) HS 3 rfl (0) [.int .i64 n, .slice A L.length c] (by kernel_rfl) (by kernel_rfl) (by kernel_rfl) (by kernel_rfl) (one_ (by kernel_rfl)) (Nat.le_of_ble_eq_true rfl)
              replace HK := HK.trans hk_ (fun _ h_ => .inl (.inr (blk_own h_)))
              refine t_s (n := 2) 3 rfl (by kernel_rfl) (by kernel_rfl) hrun_ HK ?_
              clear hk_ hrun_
              replace HS : St W M_ W54 [row A L.length c (ci .i64 L) 3 1, row B M.length c2 (ci .i64 M) 3 1, blk g9 [.int .i64 0, .slice none 0 0] 43, blk g7 [.int .i64 n, .slice A L.length c] 43, blk g5 [.int .i64 kd, .int .i64 i] 49, blk g3 [.int .i64 m, .slice B M.length c2] 43, blk g1 [.int .i64 n, .slice A L.length c] 43] := H_
              clear H_
              obtain ⟨W55, hrun_, H_, hk_⟩ := ex_ks (P := Try.prog) (ty := 0) (ps := "ref.go:105") (af := #[{ on := 1, ground := Go.Ground.data }, { on := 3, ground := Go.Ground.chain }, { on := 0, ground := Go.Ground.phase }, { on := 1, ground := Go.Ground.phase }, { on := 2, ground := (Go.Ground.textOnly Go.Departure.lateStores) }, { on := 3, ground := Go.Ground.phase }]) (gd := none) (t := 43) (x := (Go.Operand.tmp 7)) (y := (Go.Operand.tmp 65)) (v := .agg #[.int .i64 m, .slice B M.length c2]) HS 2 rfl (0) [.int .i64 m, .slice B M.length c2] (by kernel_rfl) (by kernel_rfl) (by kernel_rfl) (by kernel_rfl) (one_ (by kernel_rfl)) (Nat.le_of_ble_eq_true rfl)
              replace HK := HK.trans hk_ (fun _ h_ => .inl (.inl (blk_own h_)))
              refine t_s (n := 1) 4 rfl (by kernel_rfl) (by kernel_rfl) hrun_ HK ?_
              clear hk_ hrun_
              replace HS : St W M_ W55 [row A L.length c (ci .i64 L) 3 1, row B M.length c2 (ci .i64 M) 3 1, blk g9 [.int .i64 m, .slice B M.length c2] 43, blk g7 [.int .i64 n, .slice A L.length c] 43, blk g5 [.int .i64 kd, .int .i64 i] 49, blk g3 [.int .i64 m, .slice B M.length c2] 43, blk g1 [.int .i64 n, .slice A L.length c] 43] := H_
              clear H_
              refine t_q (n := 0) 5 (.bool false) rfl (by kernel_rfl) (by kernel_rfl) (fun _ _ _ h => h) (fun w' hk => (by kernel_rfl)) HK ?_
              refine t_done (by kernel_rfl) ?_
              clear HV HK
              refine x_then ?_
              refine wp_ret ?_
              refine ret_ (.tuple #[.agg #[.int .i64 n, .slice A L.length c], .agg #[.int .i64 m, .slice B M.length c2], .bool false]) (res3 rfl (oneRes_agg (p := ⟨g7, 0, none⟩) [.int .i64 n, .slice A L.length c] (by kernel_rfl) (by kernel_rfl) (by kernel_rfl) (by kernel_rfl) (HS.cellsN (i := 3) rfl)) (oneRes_agg (p := ⟨g9, 0, none⟩) [.int .i64 m, .slice B M.length c2] (by kernel_rfl) (by kernel_rfl) (by kernel_rfl) (by kernel_rfl) (HS.cellsN (i := 2) rfl)) (oneRes_t (by kernel_rfl))) ?_
              replace HS : St W M_ W55 [row A L.length c (ci .i64 L) 3 1, row B M.length c2 (ci .i64 M) 3 1] := St.tail (F := [blk g9 [.int .i64 m, .slice B M.length c2] 43, blk g7 [.int .i64 n, .slice A L.length c] 43, blk g5 [.int .i64 kd, .int .i64 i] 49, blk g3 [.int .i64 m, .slice B M.length c2] 43, blk g1 [.int .i64 n, .slice A L.length c] 43]) (HS.perm (perm_ [2, 3, 4, 5, 6, 0, 1] (by kernel_rfl) rfl))
              have esL : sL n m kd i L M = L := by unfold sL; rw [if_neg (show ¬ kd = 0 by omega), if_neg (show ¬ kd = 1 by omega), if_pos (show kd = 4 by omega), if_neg (show ¬ n = m by omega)]
              have esM : sM n m kd i L M = M := by unfold sM; rw [if_neg (show ¬ kd = 2 by omega), if_neg (show ¬ kd = 3 by omega), if_neg (show ¬ kd = 5 by omega)]
              have esB : sB n m kd i L M = false := by unfold sB; rw [if_neg (show ¬ kd = 0 by omega), if_neg (show ¬ kd = 1 by omega), if_neg (show ¬ kd = 2 by omega), if_neg (show ¬ kd = 3 by omega), if_pos (show kd = 4 by omega), if_neg (show ¬ n = m by omega)]
              exact ⟨_, _, _, _, by rw [esL, esM, esB], by rw [esL, esM]; exact HS⟩
          · skip
            refine ql (.bool false) (by kernel_rfl) (R_beq (b := (kd == (4 : Int))) (by kernel_rfl) (beq_f (hc43))) ?_
            refine ql (.bool false) (by kernel_rfl) (by kernel_rfl) ?_
            refine wpList_nil ?_
            refine x_then ?_
            refine wp_cond_false (by kernel_rfl) ?_
            refine wp_seq ?_
            refine wp_region_lit ?_
            by_cases hc56 : kd = (5 : Int)
            · skip
              refine ql (.bool true) (by kernel_rfl) (R_beq (b := (kd == (5 : Int))) (by kernel_rfl) (beq_t (hc56))) ?_
              refine ql (.bool true) (by kernel_rfl) (by kernel_rfl) ?_
              refine wpList_nil ?_
              refine x_then ?_
              refine wp_cond_true (by kernel_rfl) ?_
              refine wp_region_lit ?_
              refine ql (.agg #[.int .i64 m, .slice B M.length c2]) (by kernel_rfl) (R_loadN (p := ⟨g3, 0, none⟩) [.int .i64 m, .slice B M.length c2] (by kernel_rfl) (by kernel_rfl) (by kernel_rfl) (by kernel_rfl) (two_at (HS.cell (i := 3) (j := 0) rfl rfl) (HS.cell (i := 3) (j := 1) rfl rfl))) ?_
              refine ql (.agg #[.int .i64 n, .slice A L.length c]) (by kernel_rfl) (R_loadN (p := ⟨g1, 0, none⟩) [.int .i64 n, .slice A L.length c] (by kernel_rfl) (by kernel_rfl) (by kernel_rfl) (by kernel_rfl) (two_at (HS.cell (i := 4) (j := 0) rfl rfl) (HS.cell (i := 4) (j := 1) rfl rfl))) ?_
              refine qc (f := 63) (args := #[.agg #[.int .i64 m, .slice B M.length c2], .agg #[.int .i64 n, .slice A L.length c]]) (by kernel_rfl) (R_call #[.agg #[.int .i64 m, .slice B M.length c2], .agg #[.int .i64 n, .slice A L.length c]] Try.func63 (by kernel_rfl) (by kernel_rfl) (by kernel_rfl)) ?_
              replace HS : St W M_ W10 [row B M.length c2 (ci .i64 M) 3 1, row A L.length c (ci .i64 L) 3 1, blk g9 [.int .i64 0, .slice none 0 0] 43, blk g7 [.int .i64 0, .slice none 0 0] 43, blk g5 [.int .i64 kd, .int .i64 i] 49, blk g3 [.int .i64 m, .slice B M.length c2] 43, blk g1 [.int .i64 n, .slice A L.length c] 43] := HS.perm (perm_ [6, 5, 0, 1, 2, 3, 4] (by kernel_rfl) rfl)
              by_cases hnm0 : n = m
              · skip
                refine (r3or_e2 B c2 M m A c L n _ _ (St.focus (F := [row B M.length c2 (ci .i64 M) 3 1, row A L.length c (ci .i64 L) 3 1]) HS) (by omega) (by omega) (by omega) hsL hlL).mono ?_
                rintro e W59 ⟨A57, c58, rfl, H_⟩
                refine ⟨_, rfl, ?_⟩
                replace HS : St W M_ W59 [row A57 ((uni M L).length) c58 (ci .i64 (uni M L)) 3 1, row A L.length c (ci .i64 L) 3 1, blk g9 [.int .i64 0, .slice none 0 0] 43, blk g7 [.int .i64 0, .slice none 0 0] 43, blk g5 [.int .i64 kd, .int .i64 i] 49, blk g3 [.int .i64 m, .slice B M.length c2] 43, blk g1 [.int .i64 n, .slice A L.length c] 43] := HS.join (F := [row B M.length c2 (ci .i64 M) 3 1, row A L.length c (ci .i64 L) 3 1]) (G := [row A57 ((uni M L).length) c58 (ci .i64 (uni M L)) 3 1, row A L.length c (ci .i64 L) 3 1]) H_
                clear H_
                refine ql (.tuple #[.agg #[.int .i64 m, .slice A57 ((uni M L).length) c58], .bool (newB M L)]) (by kernel_rfl) (by kernel_rfl) ?_
                refine ql (.agg #[.int .i64 m, .slice A57 ((uni M L).length) c58]) (by kernel_rfl) (by kernel_rfl) ?_
                refine ql (.bool (newB M L)) (by kernel_rfl) (by kernel_rfl) ?_
                refine ks (v := .agg #[.int .i64 m, .slice A57 ((uni M L).length) c58]) HS 5 rfl (0) [.int .i64 m, .slice A57 ((uni M L).length) c58] (by kernel_rfl) (by kernel_rfl) (by kernel_rfl) (by kernel_rfl) (by kernel_rfl) (one_ (by kernel_rfl)) (Nat.le_of_ble_eq_true rfl) rfl ?_
                intro W60 H_
                replace HS : St W M_ W60 [row A57 ((uni M L).length) c58 (ci .i64 (uni M L)) 3 1, row A L.length c (ci .i64 L) 3 1, blk g9 [.int .i64 0, .slice none 0 0] 43, blk g7 [.int .i64 0, .slice none 0 0] 43, blk g5 [.int .i64 kd, .int .i64 i] 49, blk g3 [.int .i64 m, .slice A57 ((uni M L).length) c58] 43, blk g1 [.int .i64 n, .slice A L.length c] 43] := H_
                clear H_
                refine ql (.bool (newB M L)) (by kernel_rfl) (by kernel_rfl) ?_
                refine wpList_nil ?_
                refine x_inb ?_
                refine x_then ?_
                refine wp_seq ?_
                refine t_start HS (fun k_ => (blk g9 [.int .i64 0, .slice none 0 0] 43).own k_ ∨ (blk g7 [.int .i64 0, .slice none 0 0] 43).own k_) 6 (by kernel_rfl) rfl ?_
                intro W61 H_ HD_
                clear HD_
                replace HS : St W M_ W61 [row A57 ((uni M L).length) c58 (ci .i64 (uni M L)) 3 1, row A L.length c (ci .i64 L) 3 1, blk g9 [.int .i64 0, .slice none 0 0] 43, blk g7 [.int .i64 0, .slice none 0 0] 43, blk g5 [.int .i64 kd, .int .i64 i] 49, blk g3 [.int .i64 m, .slice A57 ((uni M L).length) c58] 43, blk g1 [.int .i64 n, .slice A L.length c] 43] := H_
                clear H_
                have HV := HS
                have HK := Kpt.refl (fun k_ => (blk g9 [.int .i64 0, .slice none 0 0] 43).own k_ ∨ (blk g7 [.int .i64 0, .slice none 0 0] 43).own k_) W61
                refine t_q (n := 5) 0 (.agg #[.int .i64 n, .slice A L.length c]) rfl (by kernel_rfl) (by kernel_rfl) (fun _ _ _ h => h) (fun w' hk => (R_loadN (p := ⟨g1, 0, none⟩) [.int .i64 n, .slice A L.length c] (by kernel_rfl) (by kernel_rfl) (by kernel_rfl) (by kernel_rfl) (two_at (hk.cellN (fun h_ => h_.elim (HV.sepB (a := 6) (b := 2) (by decide) rfl rfl) (HV.sepB (a := 6) (b := 3) (by decide) rfl rfl)) (HV.cell (i := 6) (j := 0) rfl rfl)) (hk.cellN (fun h_ => h_.elim (HV.sepB (a := 6) (b := 2) (by decide) rfl rfl) (HV.sepB (a := 6) (b := 3) (by decide) rfl rfl)) (HV.cell (i := 6) (j := 1) rfl rfl))))) HK ?_
                refine t_q (n := 4) 1 (.agg #[.int .i64 m, .slice A57 ((uni M L).length) c58]) rfl (by kernel_rfl) (by kernel_rfl) (fun _ _ _ h => h) (fun w' hk => (R_loadN (p := ⟨g3, 0, none⟩) [.int .i64 m, .slice A57 ((uni M L).length) c58] (by kernel_rfl) (by kernel_rfl) (by kernel_rfl) (by kernel_rfl) (two_at (hk.cellN (fun h_ => h_.elim (HV.sepB (a := 5) (b := 2) (by decide) rfl rfl) (HV.sepB (a := 5) (b := 3) (by decide) rfl rfl)) (HV.cell (i := 5) (j := 0) rfl rfl)) (hk.cellN (fun h_ => h_.elim (HV.sepB (a := 5) (b := 2) (by decide) rfl rfl) (HV.sepB (a := 5) (b := 3) (by decide) rfl rfl)) (HV.cell (i := 5) (j := 1) rfl rfl))))) HK ?_
                refine t_q (n := 3) 2 (.bool (newB M L)) rfl (by kernel_rfl) (by kernel_rfl) (fun _ _ _ h => h) (fun w' hk => (by kernel_rfl)) HK ?_
                obtain ⟨W62, hrun_, H_, hk_⟩ := ex_ks (P := Try.prog) (ty := 0) (ps := "ref.go:105") (af := #[{ on := 0, ground := Go.Ground.data }, { on := 0, ground := Go.Ground.phase }, { on := 1, ground := (Go.Ground.textOnly Go.Departure.lateStores) }, { on := 2, ground := (Go.Ground.textOnly Go.Departure.lateStores) }]) (gd := none) (t := 43) (x := (Go.Operand.tmp 6)) (y := (Go.Operand.tmp 64)) (v := .agg #[.int .i64 n, .slice A L.length c]) HS 3 rfl (0) [.int .i64 n, .slice A L.length c] (by kernel_rfl) (by kernel_rfl) (by kernel_rfl) (by kernel_rfl) (one_ (by kernel_rfl)) (Nat.le_of_ble_eq_true rfl)
                replace HK := HK.trans hk_ (fun _ h_ => .inl (.inr (blk_own h_)))
                refine t_s (n := 2) 3 rfl (by kernel_rfl) (by kernel_rfl) hrun_ HK ?_
                clear hk_ hrun_
                replace HS : St W M_ W62 [row A57 ((uni M L).length) c58 (ci .i64 (uni M L)) 3 1, row A L.length c (ci .i64 L) 3 1, blk g9 [.int .i64 0, .slice none 0 0] 43, blk g7 [.int .i64 n, .slice A L.length c] 43, blk g5 [.int .i64 kd, .int .i64 i] 49, blk g3 [.int .i64 m, .slice A57 ((uni M L).length) c58] 43, blk g1 [.int .i64 n, .slice A L.length c] 43] := H_
                clear H_
                obtain ⟨W63, hrun_, H_, hk_⟩ := ex_ks (P := Try.prog) (ty := 0) (ps := "ref.go:105") (af := #[{ on := 1, ground := Go.Ground.data }, { on := 3, ground := Go.Ground.chain }, { on := 0, ground := Go.Ground.phase }, { on := 1, ground := Go.Ground.phase }, { on := 2, ground := (Go.Ground.textOnly Go.Departure.lateStores) }, { on := 3, ground := Go.Ground.phase }]) (gd := none) (t := 43) (x := (Go.Operand.tmp 7)) (y := (Go.Operand.tmp 65)) (v := .agg #[.int .i64 m, .slice A57 ((uni M L).length) c58]) HS 2 rfl (0) [.int .i64 m, .slice A57 ((uni M L).length) c58] (by kernel_rfl) (by kernel_rfl) (by kernel_rfl) (by kernel_rfl) (one_ (by kernel_rfl)) (Nat.le_of_ble_eq_true rfl)
                replace HK := HK.trans hk_ (fun _ h_ => .inl (.inl (blk_own h_)))
                refine t_s (n := 1) 4 rfl (by kernel_rfl) (by kernel_rfl) hrun_ HK ?_
                clear hk_ hrun_
                replace HS : St W M_ W63 [row A57 ((uni M L).length) c58 (ci .i64 (uni M L)) 3 1, row A L.length c (ci .i64 L) 3 1, blk g9 [.int .i64 m, .slice A57 ((uni M L).length) c58] 43, blk g7 [.int .i64 n, .slice A L.length c] 43, blk g5 [.int .i64 kd, .int .i64 i] 49, blk g3 [.int .i64 m, .slice A57 ((uni M L).length) c58] 43, blk g1 [.int .i64 n, .slice A L.length c] 43] := H_
                clear H_
                refine t_q (n := 0) 5 (.bool (newB M L)) rfl (by kernel_rfl) (by kernel_rfl) (fun _ _ _ h => h) (fun w' hk => (by kernel_rfl)) HK ?_
                refine t_done (by kernel_rfl) ?_
                clear HV HK
                refine x_then ?_
                refine wp_ret ?_
                refine ret_ (.tuple #[.agg #[.int .i64 n, .slice A L.length c], .agg #[.int .i64 m, .slice A57 ((uni M L).length) c58], .bool (newB M L)]) (res3 rfl (oneRes_agg (p := ⟨g7, 0, none⟩) [.int .i64 n, .slice A L.length c] (by kernel_rfl) (by kernel_rfl) (by kernel_rfl) (by kernel_rfl) (HS.cellsN (i := 3) rfl)) (oneRes_agg (p := ⟨g9, 0, none⟩) [.int .i64 m, .slice A57 ((uni M L).length) c58] (by kernel_rfl) (by kernel_rfl) (by kernel_rfl) (by kernel_rfl) (HS.cellsN (i := 2) rfl)) (oneRes_t (by kernel_rfl))) ?_
                replace HS : St W M_ W63 [row A L.length c (ci .i64 L) 3 1, row A57 ((uni M L).length) c58 (ci .i64 (uni M L)) 3 1] := St.tail (F := [blk g9 [.int .i64 m, .slice A57 ((uni M L).length) c58] 43, blk g7 [.int .i64 n, .slice A L.length c] 43, blk g5 [.int .i64 kd, .int .i64 i] 49, blk g3 [.int .i64 m, .slice A57 ((uni M L).length) c58] 43, blk g1 [.int .i64 n, .slice A L.length c] 43]) (HS.perm (perm_ [2, 3, 4, 5, 6, 1, 0] (by kernel_rfl) rfl))
                have esL : sL n m kd i L M = L := by unfold sL; rw [if_neg (show ¬ kd = 0 by omega), if_neg (show ¬ kd = 1 by omega), if_neg (show ¬ kd = 4 by omega)]
                have esM : sM n m kd i L M = uni M L := by unfold sM; rw [if_neg (show ¬ kd = 2 by omega), if_neg (show ¬ kd = 3 by omega), if_pos (show kd = 5 by omega), if_pos (show n = m by omega)]
                have esB : sB n m kd i L M = newB M L := by unfold sB; rw [if_neg (show ¬ kd = 0 by omega), if_neg (show ¬ kd = 1 by omega), if_neg (show ¬ kd = 2 by omega), if_neg (show ¬ kd = 3 by omega), if_neg (show ¬ kd = 4 by omega), if_pos (show kd = 5 by omega), if_pos (show n = m by omega)]
                exact ⟨_, _, _, _, by rw [esL, esM, esB], by rw [esL, esM]; exact HS⟩
              · skip
                refine (r3or_ne B c2 M m A c L n _ _ (St.focus (F := [row B M.length c2 (ci .i64 M) 3 1, row A L.length c (ci .i64 L) 3 1]) HS) (by omega) (by omega) (by omega)).mono ?_
                rintro e W64 ⟨rfl, H_⟩
                refine ⟨_, rfl, ?_⟩
                replace HS : St W M_ W64 [row B M.length c2 (ci .i64 M) 3 1, row A L.length c (ci .i64 L) 3 1, blk g9 [.int .i64 0, .slice none 0 0] 43, blk g7 [.int .i64 0, .slice none 0 0] 43, blk g5 [.int .i64 kd, .int .i64 i] 49, blk g3 [.int .i64 m, .slice B M.length c2] 43, blk g1 [.int .i64 n, .slice A L.length c] 43] := HS.join (F := [row B M.length c2 (ci .i64 M) 3 1, row A L.length c (ci .i64 L) 3 1]) (G := [row B M.length c2 (ci .i64 M) 3 1, row A L.length c (ci .i64 L) 3 1]) H_
                clear H_
                refine ql (.tuple #[.agg #[.int .i64 m, .slice B M.length c2], .bool false]) (by kernel_rfl) (by kernel_rfl) ?_
                refine ql (.agg #[.int .i64 m, .slice B M.length c2]) (by kernel_rfl) (by kernel_rfl) ?_
                refine ql (.bool false) (by kernel_rfl) (by kernel_rfl) ?_
                refine ks (v := .agg #[.int .i64 m, .slice B M.length c2]) HS 5 rfl (0) [.int .i64 m, .slice B M.length c2] (by kernel_rfl) (by kernel_rfl) (by kernel_rfl) (by kernel_rfl) (by kernel_rfl) (one_ (by kernel_rfl)) (Nat.le_of_ble_eq_true rfl) rfl ?_
                intro W65 H_
                replace HS : St W M_ W65 [row B M.length c2 (ci .i64 M) 3 1, row A L.length c (ci .i64 L) 3 1, blk g9 [.int .i64 0, .slice none 0 0] 43, blk g7 [.int .i64 0, .slice none 0 0] 43, blk g5 [.int .i64 kd, .int .i64 i] 49, blk g3 [.int .i64 m, .slice B M.length c2] 43, blk g1 [.int .i64 n, .slice A L.length c] 43] := H_
                clear H_
                refine ql (.bool false) (by kernel_rfl) (by kernel_rfl) ?_
                refine wpList_nil ?_
                refine x_inb ?_
                refine x_then ?_
                refine wp_seq ?_
                refine t_start HS (fun k_ => (blk g9 [.int .i64 0, .slice none 0 0] 43).own k_ ∨ (blk g7 [.int .i64 0, .slice none 0 0] 43).own k_) 6 (by kernel_rfl) rfl ?_
                intro W66 H_ HD_
                clear HD_
                replace HS : St W M_ W66 [row B M.length c2 (ci .i64 M) 3 1, row A L.length c (ci .i64 L) 3 1, blk g9 [.int .i64 0, .slice none 0 0] 43, blk g7 [.int .i64 0, .slice none 0 0] 43, blk g5 [.int .i64 kd, .int .i64 i] 49, blk g3 [.int .i64 m, .slice B M.length c2] 43, blk g1 [.int .i64 n, .slice A L.length c] 43] := H_
                clear H_
                have HV := HS
                have HK := Kpt.refl (fun k_ => (blk g9 [.int .i64 0, .slice none 0 0] 43).own k_ ∨ (blk g7 [.int .i64 0, .slice none 0 0] 43).own k_) W66
                refine t_q (n := 5) 0 (.agg #[.int .i64 n, .slice A L.length c]) rfl (by kernel_rfl) (by kernel_rfl) (fun _ _ _ h => h) (fun w' hk => (R_loadN (p := ⟨g1, 0, none⟩) [.int .i64 n, .slice A L.length c] (by kernel_rfl) (by kernel_rfl) (by kernel_rfl) (by kernel_rfl) (two_at (hk.cellN (fun h_ => h_.elim (HV.sepB (a := 6) (b := 2) (by decide) rfl rfl) (HV.sepB (a := 6) (b := 3) (by decide) rfl rfl)) (HV.cell (i := 6) (j := 0) rfl rfl)) (hk.cellN (fun h_ => h_.elim (HV.sepB (a := 6) (b := 2) (by decide) rfl rfl) (HV.sepB (a := 6) (b := 3) (by decide) rfl rfl)) (HV.cell (i := 6) (j := 1) rfl rfl))))) HK ?_
                refine t_q (n := 4) 1 (.agg #[.int .i64 m, .slice B M.length c2]) rfl (by kernel_rfl) (by kernel_rfl) (fun _ _ _ h => h) (fun w' hk => (R_loadN (p := ⟨g3, 0, none⟩) [.int .i64 m, .slice B M.length c2] (by kernel_rfl) (by kernel_rfl) (by kernel_rfl) (by kernel_rfl) (two_at (hk.cellN (fun h_ => h_.elim (HV.sepB (a := 5) (b := 2) (by decide) rfl rfl) (HV.sepB (a := 5) (b := 3) (by decide) rfl rfl)) (HV.cell (i := 5) (j := 0) rfl rfl)) (hk.cellN (fun h_ => h_.elim (HV.sepB (a := 5) (b := 2) (by decide) rfl rfl) (HV.sepB (a := 5) (b := 3) (by decide) rfl rfl)) (HV.cell (i := 5) (j := 1) rfl rfl))))) HK ?_
                refine t_q (n := 3) 2 (.bool false) rfl (by kernel_rfl) (by kernel_rfl) (fun _ _ _ h => h) (fun w' hk => (by kernel_rfl)) HK ?_
                obtain ⟨W67, hrun_, H_, hk_⟩ := ex_ks (P := Try.prog) (ty := 0) (ps := "ref.go:105") (af := #[{ on := 0, ground := Go.Ground.data }, { on := 0, ground := Go.Ground.phase }, { on := 1, ground := (Go.Ground.textOnly Go.Departure.lateStores) }, { on := 2, ground := (Go.Ground.textOnly Go.Departure.lateStores) }]) (gd := none) (t := 43) (x := (Go.Operand.tmp 6)) (y := (Go.Operand.tmp 64)) (v := .agg #[.int .i64 n, .slice A L.length c]) HS 3 rfl (0) [.int .i64 n, .slice A L.length c] (by kernel_rfl) (by kernel_rfl) (by kernel_rfl) (by kernel_rfl) (one_ (by kernel_rfl)) (Nat.le_of_ble_eq_true rfl)
                replace HK := HK.trans hk_ (fun _ h_ => .inl (.inr (blk_own h_)))
                refine t_s (n := 2) 3 rfl (by kernel_rfl) (by kernel_rfl) hrun_ HK ?_
                clear hk_ hrun_
                replace HS : St W M_ W67 [row B M.length c2 (ci .i64 M) 3 1, row A L.length c (ci .i64 L) 3 1, blk g9 [.int .i64 0, .slice none 0 0] 43, blk g7 [.int .i64 n, .slice A L.length c] 43, blk g5 [.int .i64 kd, .int .i64 i] 49, blk g3 [.int .i64 m, .slice B M.length c2] 43, blk g1 [.int .i64 n, .slice A L.length c] 43] := H_
                clear H_
                obtain ⟨W68, hrun_, H_, hk_⟩ := ex_ks (P := Try.prog) (ty := 0) (ps := "ref.go:105") (af := #[{ on := 1, ground := Go.Ground.data }, { on := 3, ground := Go.Ground.chain }, { on := 0, ground := Go.Ground.phase }, { on := 1, ground := Go.Ground.phase }, { on := 2, ground := (Go.Ground.textOnly Go.Departure.lateStores) }, { on := 3, ground := Go.Ground.phase }]) (gd := none) (t := 43) (x := (Go.Operand.tmp 7)) (y := (Go.Operand.tmp 65)) (v := .agg #[.int .i64 m, .slice B M.length c2]) HS 2 rfl (0) [.int .i64 m, .slice B M.length c2] (by kernel_rfl) (by kernel_rfl) (by kernel_rfl) (by kernel_rfl) (one_ (by kernel_rfl)) (Nat.le_of_ble_eq_true rfl)
                replace HK := HK.trans hk_ (fun _ h_ => .inl (.inl (blk_own h_)))
                refine t_s (n := 1) 4 rfl (by kernel_rfl) (by kernel_rfl) hrun_ HK ?_
                clear hk_ hrun_
                replace HS : St W M_ W68 [row B M.length c2 (ci .i64 M) 3 1, row A L.length c (ci .i64 L) 3 1, blk g9 [.int .i64 m, .slice B M.length c2] 43, blk g7 [.int .i64 n, .slice A L.length c] 43, blk g5 [.int .i64 kd, .int .i64 i] 49, blk g3 [.int .i64 m, .slice B M.length c2] 43, blk g1 [.int .i64 n, .slice A L.length c] 43] := H_
                clear H_
                refine t_q (n := 0) 5 (.bool false) rfl (by kernel_rfl) (by kernel_rfl) (fun _ _ _ h => h) (fun w' hk => (by kernel_rfl)) HK ?_
                refine t_done (by kernel_rfl) ?_
                clear HV HK
                refine x_then ?_
                refine wp_ret ?_
                refine ret_ (.tuple #[.agg #[.int .i64 n, .slice A L.length c], .agg #[.int .i64 m, .slice B M.length c2], .bool false]) (res3 rfl (oneRes_agg (p := ⟨g7, 0, none⟩) [.int .i64 n, .slice A L.length c] (by kernel_rfl) (by kernel_rfl) (by kernel_rfl) (by kernel_rfl) (HS.cellsN (i := 3) rfl)) (oneRes_agg (p := ⟨g9, 0, none⟩) [.int .i64 m, .slice B M.length c2] (by kernel_rfl) (by kernel_rfl) (by kernel_rfl) (by kernel_rfl) (HS.cellsN (i := 2) rfl)) (oneRes_t (by kernel_rfl))) ?_
                replace HS : St W M_ W68 [row A L.length c (ci .i64 L) 3 1, row B M.length c2 (ci .i64 M) 3 1] := St.tail (F := [blk g9 [.int .i64 m, .slice B M.length c2] 43, blk g7 [.int .i64 n, .slice A L.length c] 43, blk g5 [.int .i64 kd, .int .i64 i] 49, blk g3 [.int .i64 m, .slice B M.length c2] 43, blk g1 [.int .i64 n, .slice A L.length c] 43]) (HS.perm (perm_ [2, 3, 4, 5, 6, 1, 0] (by kernel_rfl) rfl))
                have esL : sL n m kd i L M = L := by unfold sL; rw [if_neg (show ¬ kd = 0 by omega), if_neg (show ¬ kd = 1 by omega), if_neg (show ¬ kd = 4 by omega)]
                have esM : sM n m kd i L M = M := by unfold sM; rw [if_neg (show ¬ kd = 2 by omega), if_neg (show ¬ kd = 3 by omega), if_pos (show kd = 5 by omega), if_neg (show ¬ n = m by omega)]
                have esB : sB n m kd i L M = false := by unfold sB; rw [if_neg (show ¬ kd = 0 by omega), if_neg (show ¬ kd = 1 by omega), if_neg (show ¬ kd = 2 by omega), if_neg (show ¬ kd = 3 by omega), if_neg (show ¬ kd = 4 by omega), if_pos (show kd = 5 by omega), if_neg (show ¬ n = m by omega)]
                exact ⟨_, _, _, _, by rw [esL, esM, esB], by rw [esL, esM]; exact HS⟩
            · skip
              refine ql (.bool false) (by kernel_rfl) (R_beq (b := (kd == (5 : Int))) (by kernel_rfl) (beq_f (hc56))) ?_
              refine ql (.bool false) (by kernel_rfl) (by kernel_rfl) ?_
              refine wpList_nil ?_
              refine x_then ?_
              refine wp_cond_false (by kernel_rfl) ?_
              refine wp_skip ?_
              refine x_inb ?_
              refine x_then ?_
              refine wp_seq ?_
              refine t_start HS (fun k_ => (blk g9 [.int .i64 0, .slice none 0 0] 43).own k_ ∨ (blk g7 [.int .i64 0, .slice none 0 0] 43).own k_) 6 (by kernel_rfl) rfl ?_
              intro W69 H_ HD_
              clear HD_
              replace HS : St W M_ W69 [blk g9 [.int .i64 0, .slice none 0 0] 43, blk g7 [.int .i64 0, .slice none 0 0] 43, blk g5 [.int .i64 kd, .int .i64 i] 49, blk g3 [.int .i64 m, .slice B M.length c2] 43, blk g1 [.int .i64 n, .slice A L.length c] 43, row A L.length c (ci .i64 L) 3 1, row B M.length c2 (ci .i64 M) 3 1] := H_
              clear H_
              have HV := HS
              have HK := Kpt.refl (fun k_ => (blk g9 [.int .i64 0, .slice none 0 0] 43).own k_ ∨ (blk g7 [.int .i64 0, .slice none 0 0] 43).own k_) W69
              refine t_q (n := 5) 0 (.agg #[.int .i64 n, .slice A L.length c]) rfl (by kernel_rfl) (by kernel_rfl) (fun _ _ _ h => h) (fun w' hk => (R_loadN (p := ⟨g1, 0, none⟩) [.int .i64 n, .slice A L.length c] (by kernel_rfl) (by kernel_rfl) (by kernel_rfl) (by kernel_rfl) (two_at (hk.cellN (fun h_ => h_.elim (HV.sepB (a := 4) (b := 0) (by decide) rfl rfl) (HV.sepB (a := 4) (b := 1) (by decide) rfl rfl)) (HV.cell (i := 4) (j := 0) rfl rfl)) (hk.cellN (fun h_ => h_.elim (HV.sepB (a := 4) (b := 0) (by decide) rfl rfl) (HV.sepB (a := 4) (b := 1) (by decide) rfl rfl)) (HV.cell (i := 4) (j := 1) rfl rfl))))) HK ?_
              refine t_q (n := 4) 1 (.agg #[.int .i64 m, .slice B M.length c2]) rfl (by kernel_rfl) (by kernel_rfl) (fun _ _ _ h => h) (fun w' hk => (R_loadN (p := ⟨g3, 0, none⟩) [.int .i64 m, .slice B M.length c2] (by kernel_rfl) (by kernel_rfl) (by kernel_rfl) (by kernel_rfl) (two_at (hk.cellN (fun h_ => h_.elim (HV.sepB (a := 3) (b := 0) (by decide) rfl rfl) (HV.sepB (a := 3) (b := 1) (by decide) rfl rfl)) (HV.cell (i := 3) (j := 0) rfl rfl)) (hk.cellN (fun h_ => h_.elim (HV.sepB (a := 3) (b := 0) (by decide) rfl rfl) (HV.sepB (a := 3) (b := 1) (by decide) rfl rfl)) (HV.cell (i := 3) (j := 1) rfl rfl))))) HK ?_
              refine t_q (n := 3) 2 (.bool false) rfl (by kernel_rfl) (by kernel_rfl) (fun _ _ _ h => h) (fun w' hk => (by kernel_rfl)) HK ?_
              obtain ⟨W70, hrun_, H_, hk_⟩ := ex_ks (P := Try.prog) (ty := 0) (ps := "ref.go:105") (af := #[{ on := 0, ground := Go.Ground.data }, { on := 0, ground := Go.Ground.phase }, { on := 1, ground := (Go.Ground.textOnly Go.Departure.lateStores) }, { on := 2, ground := (Go.Ground.textOnly Go.Departure.lateStores) }]) (gd := none) (t := 43) (x := (Go.Operand.tmp 6)) (y := (Go.Operand.tmp 64)) (v := .agg #[.int .i64 n, .slice A L.length c]) HS 1 rfl (0) [.int .i64 n, .slice A L.length c] (by kernel_rfl) (by kernel_rfl) (by kernel_rfl) (by kernel_rfl) (one_ (by kernel_rfl)) (Nat.le_of_ble_eq_true rfl)
              replace HK := HK.trans hk_ (fun _ h_ => .inl (.inr (blk_own h_)))
              refine t_s (n := 2) 3 rfl (by kernel_rfl) (by kernel_rfl) hrun_ HK ?_
              clear hk_ hrun_
              replace HS : St W M_ W70 [blk g9 [.int .i64 0, .slice none 0 0] 43, blk g7 [.int .i64 n, .slice A L.length c] 43, blk g5 [.int .i64 kd, .int .i64 i] 49, blk g3 [.int .i64 m, .slice B M.length c2] 43, blk g1 [.int .i64 n, .slice A L.length c] 43, row A L.length c (ci .i64 L) 3 1, row B M.length c2 (ci .i64 M) 3 1] := H_
              clear H_
              obtain ⟨W71, hrun_, H_, hk_⟩ := ex_ks (P := Try.prog) (ty := 0) (ps := "ref.go:105") (af := #[{ on := 1, ground := Go.Ground.data }, { on := 3, ground := Go.Ground.chain }, { on := 0, ground := Go.Ground.phase }, { on := 1, ground := Go.Ground.phase }, { on := 2, ground := (Go.Ground.textOnly Go.Departure.lateStores) }, { on := 3, ground := Go.Ground.phase }]) (gd := none) (t := 43) (x := (Go.Operand.tmp 7)) (y := (Go.Operand.tmp 65)) (v := .agg #[.int .i64 m, .slice B M.length c2]) HS 0 rfl (0) [.int .i64 m, .slice B M.length c2] (by kernel_rfl) (by kernel_rfl) (by kernel_rfl) (by kernel_rfl) (one_ (by kernel_rfl)) (Nat.le_of_ble_eq_true rfl)
              replace HK := HK.trans hk_ (fun _ h_ => .inl (.inl (blk_own h_)))
              refine t_s (n := 1) 4 rfl (by kernel_rfl) (by kernel_rfl) hrun_ HK ?_
              clear hk_ hrun_
              replace HS : St W M_ W71 [blk g9 [.int .i64 m, .slice B M.length c2] 43, blk g7 [.int .i64 n, .slice A L.length c] 43, blk g5 [.int .i64 kd, .int .i64 i] 49, blk g3 [.int .i64 m, .slice B M.length c2] 43, blk g1 [.int .i64 n, .slice A L.length c] 43, row A L.length c (ci .i64 L) 3 1, row B M.length c2 (ci .i64 M) 3 1] := H_
              clear H_
              refine t_q (n := 0) 5 (.bool false) rfl (by kernel_rfl) (by kernel_rfl) (fun _ _ _ h => h) (fun w' hk => (by kernel_rfl)) HK ?_
              refine t_done (by kernel_rfl) ?_
              clear HV HK
              refine x_then ?_
              refine wp_ret ?_
              refine ret_ (.tuple #[.agg #[.int .i64 n, .slice A L.length c], .agg #[.int .i64 m, .slice B M.length c2], .bool false]) (res3 rfl (oneRes_agg (p := ⟨g7, 0, none⟩) [.int .i64 n, .slice A L.length c] (by kernel_rfl) (by kernel_rfl) (by kernel_rfl) (by kernel_rfl) (HS.cellsN (i := 1) rfl)) (oneRes_agg (p := ⟨g9, 0, none⟩) [.int .i64 m, .slice B M.length c2] (by kernel_rfl) (by kernel_rfl) (by kernel_rfl) (by kernel_rfl) (HS.cellsN (i := 0) rfl)) (oneRes_t (by kernel_rfl))) ?_
              replace HS := HS.drop1
              replace HS := HS.drop1
              replace HS := HS.drop1
              replace HS := HS.drop1
              replace HS := HS.drop1
              have esL : sL n m kd i L M = L := by unfold sL; rw [if_neg (show ¬ kd = 0 by omega), if_neg (show ¬ kd = 1 by omega), if_neg (show ¬ kd = 4 by omega)]
              have esM : sM n m kd i L M = M := by unfold sM; rw [if_neg (show ¬ kd = 2 by omega), if_neg (show ¬ kd = 3 by omega), if_neg (show ¬ kd = 5 by omega)]
              have esB : sB n m kd i L M = false := by unfold sB; rw [if_neg (show ¬ kd = 0 by omega), if_neg (show ¬ kd = 1 by omega), if_neg (show ¬ kd = 2 by omega), if_neg (show ¬ kd = 3 by omega), if_neg (show ¬ kd = 4 by omega), if_neg (show ¬ kd = 5 by omega)]
              exact ⟨_, _, _, _, by rw [esL, esM, esB], by rw [esL, esM]; exact HS⟩

open Go.Shelf

set_option maxRecDepth 100000 in
set_option maxHeartbeats 1000000 in
theorem cnan (x : Int) (W : World) : Calls Try.prog 95 #[.int .i32 x] W fun e W' => e = .returned (.bool false) ∧ St W (owns []) W' [] := by
  have HS : St W (owns []) W [] := St.start W _
  refine calls_enter [.int .i32 x, undef, undef, undef, undef, undef] Try.func95 rfl (by kernel_rfl) ?_
  refine wp_seq ?_
  refine wp_region_lit ?_
  refine ql (.bool false) (by kernel_rfl) (by kernel_rfl) ?_
  refine wpList_nil ?_
  refine x_then ?_
  refine wp_seq ?_
  refine wp_region_lit ?_
  refine ql (.int .i32 x) (by kernel_rfl) (by kernel_rfl) ?_
  refine ql (.int .i32 x) (by kernel_rfl) (by kernel_rfl) ?_
  refine ql (.bool false) (by kernel_rfl) (R_beq (b := (x != x)) (by kernel_rfl) (bne_f (by omega))) ?_
  refine ql (.bool false) (by kernel_rfl) (by kernel_rfl) ?_
  refine wpList_nil ?_
  refine x_then ?_
  refine wp_ret ?_
  refine ret_ (.bool false) (by kernel_rfl) ?_
  exact ⟨rfl, HS⟩

set_option maxRecDepth 100000 in
set_option maxHeartbeats 1000000 in
theorem snan (x : Int) (W : World) : Calls Try.prog 91 #[.int .i32 x] W fun e W' => e = .returned (.bool false) ∧ St W (owns []) W' [] := by
  have HS : St W (owns []) W [] := St.start W _
  refine calls_enter [.int .i32 x, undef, undef, undef, undef, undef] Try.func91 rfl (by kernel_rfl) ?_
  refine wp_seq ?_
  refine wp_region_lit ?_
  refine ql (.bool false) (by kernel_rfl) (by kernel_rfl) ?_
  refine wpList_nil ?_
  refine x_then ?_
  refine wp_seq ?_
  refine wp_region_lit ?_
  refine ql (.int .i32 x) (by kernel_rfl) (by kernel_rfl) ?_
  refine ql (.int .i32 x) (by kernel_rfl) (by kernel_rfl) ?_
  refine ql (.bool false) (by kernel_rfl) (R_beq (b := (x != x)) (by kernel_rfl) (bne_f (by omega))) ?_
  refine ql (.bool false) (by kernel_rfl) (by kernel_rfl) ?_
  refine wpList_nil ?_
  refine x_then ?_
  refine wp_ret ?_
  refine ret_ (.bool false) (by kernel_rfl) ?_
  exact ⟨rfl, HS⟩

set_option maxRecDepth 100000 in
set_option maxHeartbeats 1000000 in
theorem cless (x y : Int) (W : World) : Calls Try.prog 90 #[.int .i32 x, .int .i32 y] W fun e W' => e = .returned (.bool (decide (x < y))) ∧ St W (owns []) W' [] := by
  have HS : St W (owns []) W [] := St.start W _
  refine calls_enter [.int .i32 x, .int .i32 y, undef, undef, undef, undef, undef, undef, undef, undef, undef, undef, undef, undef, undef, undef, undef] Try.func90 rfl (by kernel_rfl) ?_
  refine wp_seq ?_
  refine wp_region_lit ?_
  refine ql (.bool false) (by kernel_rfl) (by kernel_rfl) ?_
  refine wpList_nil ?_
  refine x_then ?_
  refine wp_seq ?_
  refine wp_region_lit ?_
  refine ql (.int .i32 x) (by kernel_rfl) (by kernel_rfl) ?_
  refine qc (f := 95) (args := #[.int .i32 x]) (by kernel_rfl) (R_call #[.int .i32 x] Try.func95 (by kernel_rfl) (by kernel_rfl) (by kernel_rfl)) ?_
  refine (cnan x _).mono ?_
  rintro e W1 ⟨rfl, H_⟩
  refine ⟨_, rfl, ?_⟩
  replace HS : St W (owns []) W1 [] := HS.join (F := []) (G := []) H_
  clear H_
  refine ql (.bool false) (by kernel_rfl) (by kernel_rfl) ?_
  refine qln (by kernel_rfl) ?_
  refine qln (by kernel_rfl) ?_
  refine qln (by kernel_rfl) ?_
  refine ql (.bool false) (by kernel_rfl) (by kernel_rfl) ?_
  refine ql (.bool false) (by kernel_rfl) (by kernel_rfl) ?_
  refine ql (.int .i32 x) (by kernel_rfl) (by kernel_rfl) ?_
  refine ql (.int .i32 y) (by kernel_rfl) (by kernel_rfl) ?_
  by_cases hc2 : x < y
  · skip
    refine ql (.bool true) (by kernel_rfl) (R_bool (p := x < y) (by kernel_rfl) (hc2)) ?_
    refine ql (.bool true) (by kernel_rfl) (by kernel_rfl) ?_
    refine ql (.bool true) (by kernel_rfl) (by kernel_rfl) ?_
    refine wpList_nil ?_
    refine x_then ?_
    refine wp_ret ?_
    refine ret_ (.bool true) (by kernel_rfl) ?_
    exact ⟨by rw [decide_eq_true hc2], HS⟩
  · skip
    refine ql (.bool false) (by kernel_rfl) (R_nbool (p := x < y) (by kernel_rfl) (hc2)) ?_
    refine ql (.bool false) (by kernel_rfl) (by kernel_rfl) ?_
    refine ql (.bool false) (by kernel_rfl) (by kernel_rfl) ?_
    refine wpList_nil ?_
    refine x_then ?_
    refine wp_ret ?_
    refine ret_ (.bool false) (by kernel_rfl) ?_
    exact ⟨by rw [decide_eq_false hc2], HS⟩

set_option maxRecDepth 100000 in
set_option maxHeartbeats 1000000 in
theorem sbs (A : Option Addr) (c : Nat) (L : List Int) (x : Int) (W : World) (hr : Rd W A (ci .i32 L)) (hl : L.length ≤ 100000) (hs : L.Pairwise (· < ·)) : Calls Try.prog 76 #[.slice A L.length c, .int .i32 x] W fun e W' => e = .returned (.tuple #[.int .i64 (rk L x), .bool (decide (x ∈ L))]) ∧ St W (owns []) W' [] := by
  have HS : St W (owns []) W [] := St.start W _
  refine calls_enter ((.slice A L.length c) :: (.int .i32 x) :: undef :: undef :: undef :: undef :: undef :: undef :: undef :: undef :: undef :: undef :: undef :: undef :: undef :: undef :: undef :: undef :: undef :: undef :: undef :: undef :: undef :: undef :: undef :: undef :: undef :: undef :: undef :: undef :: undef :: undef :: undef :: undef :: undef :: undef :: undef :: undef :: undef :: undef :: undef :: undef :: undef :: undef :: undef :: undef :: undef :: undef :: undef :: undef :: undef :: undef :: undef :: undef :: []) Try.func76 rfl (by kernel_rfl) ?_
  refine wp_seq ?_
  refine wp_region_lit ?_
  refine ql (.int .i64 0) (by kernel_rfl) (by kernel_rfl) ?_
  refine ql (.bool false) (by kernel_rfl) (by kernel_rfl) ?_
  refine wpList_nil ?_
  refine x_then ?_
  refine wp_seq ?_
  refine wp_region_lit ?_
  refine ql (.slice A L.length c) (by kernel_rfl) (by kernel_rfl) ?_
  refine ql (.int .i64 (L.length : Int)) (by kernel_rfl) (by kernel_rfl) ?_
  refine ql (.int .i64 (L.length : Int)) (by kernel_rfl) (by kernel_rfl) ?_
  refine wpList_nil ?_
  refine x_then ?_
  refine wp_seq ?_
  refine wp_region_lit ?_
  refine ql (.int .i64 (L.length : Int)) (by kernel_rfl) (by kernel_rfl) ?_
  refine ql (.int .i64 0) (by kernel_rfl) (by kernel_rfl) ?_
  refine ql (.int .i64 (L.length : Int)) (by kernel_rfl) (by kernel_rfl) ?_
  refine wpList_nil ?_
  refine x_then ?_
  refine wp_seq ?_
  refine wp_block ?_
  refine wp_loop_ghost (fun kq a' w' => ∃ (J1 : Nat → Value) (i : Int) (j : Int) , a' = Fr ((.slice A L.length c) :: (.int .i32 x) :: undef :: undef :: (.int .i64 0) :: (.bool false) :: (.int .i64 (L.length : Int)) :: (.int .i64 i) :: (.int .i64 j) :: ((J1 9)) :: (.slice A L.length c) :: (.int .i64 (L.length : Int)) :: (.int .i64 (L.length : Int)) :: ((J1 13)) :: ((J1 14)) :: ((J1 15)) :: ((J1 16)) :: ((J1 17)) :: ((J1 18)) :: ((J1 19)) :: ((J1 20)) :: ((J1 21)) :: ((J1 22)) :: ((J1 23)) :: ((J1 24)) :: ((J1 25)) :: ((J1 26)) :: ((J1 27)) :: ((J1 28)) :: ((J1 29)) :: ((J1 30)) :: undef :: undef :: undef :: undef :: undef :: undef :: undef :: undef :: undef :: undef :: undef :: undef :: undef :: undef :: undef :: undef :: undef :: undef :: undef :: undef :: undef :: undef :: undef :: []) ∧ kq = ((j).toNat - (i).toNat) ∧ (BsP L x i j) ∧ St W (owns []) w' []) (((L.length : Int)).toNat - ((0 : Int)).toNat) ⟨(fun k_ : Nat => List.getD ((.slice A L.length c) :: (.int .i32 x) :: undef :: undef :: (.int .i64 0) :: (.bool false) :: (.int .i64 (L.length : Int)) :: (.int .i64 0) :: (.int .i64 (L.length : Int)) :: undef :: (.slice A L.length c) :: (.int .i64 (L.length : Int)) :: (.int .i64 (L.length : Int)) :: undef :: undef :: undef :: undef :: undef :: undef :: undef :: undef :: undef :: undef :: undef :: undef :: undef :: undef :: undef :: undef :: undef :: undef :: undef :: undef :: undef :: undef :: undef :: undef :: undef :: undef :: undef :: undef :: undef :: undef :: undef :: undef :: undef :: undef :: undef :: undef :: undef :: undef :: undef :: undef :: undef :: []) k_ undef), (0 : Int), (L.length : Int), congrArg Fr (by kernel_rfl), rfl, bs_start L x, HS⟩ ?_
  clear HS
  intro kq2 a' W3 hrel
  obtain ⟨J1, i, j, rfl, hk, hP, HS⟩ := hrel
  obtain ⟨hp1, hp2, hp3, _, _⟩ := id hP
  refine wp_seq ?_
  refine wp_seq ?_
  refine wp_region_lit ?_
  refine ql (.int .i64 i) (by kernel_rfl) (by kernel_rfl) ?_
  refine ql (.int .i64 j) (by kernel_rfl) (by kernel_rfl) ?_
  by_cases hc4 : i < j
  · skip
    refine ql (.bool true) (by kernel_rfl) (R_bool (p := i < j) (by kernel_rfl) (hc4)) ?_
    refine wpList_nil ?_
    refine x_then ?_
    refine wp_cond_true (by kernel_rfl) ?_
    refine wp_skip ?_
    refine x_then ?_
    refine wp_block ?_
    refine wp_seq ?_
    have hm := bs_mid hP.1 (by assumption)
    refine wp_region_lit ?_
    refine ql (.int .i64 i) (by kernel_rfl) (by kernel_rfl) ?_
    refine ql (.int .i64 j) (by kernel_rfl) (by kernel_rfl) ?_
    refine ql (.int .i64 (i + j)) (by kernel_rfl) (R_int (by kernel_rfl) (w64 (by omega))) ?_
    refine ql (.int .u64 (i + j)) (by kernel_rfl) (R_int (by kernel_rfl) (wu64 (by omega))) ?_
    refine ql (.int .u64 ((i + j) / 2)) (by kernel_rfl) (R_eq (R_shr (i := i + j) (j := 1) (k2 := .u64) (by kernel_rfl) (by kernel_rfl) ⟨by omega, by omega⟩ (by omega) (by omega)) (by rw [shr1 (by omega)])) ?_
    refine ql (.int .i64 ((i + j) / 2)) (by kernel_rfl) (R_int (by kernel_rfl) (w64 (by omega))) ?_
    refine ql (.int .i64 ((i + j) / 2)) (by kernel_rfl) (by kernel_rfl) ?_
    refine wpList_nil ?_
    refine x_then ?_
    refine wp_seq ?_
    refine wp_region_lit ?_
    refine ql (.slice A L.length c) (by kernel_rfl) (by kernel_rfl) ?_
    refine ql (.int .i64 ((i + j) / 2)) (by kernel_rfl) (by kernel_rfl) ?_
    obtain ⟨ad5, rfl⟩ := Rd.isSome_ hr (by rw [ci_len]; omega)
    refine ql (.pointer (some (ad5.add ((i + j) / 2).toNat))) (by kernel_rfl) (R_indexA1 (k := .i64) (p := ad5) (n := L.length) (c := c) (i := (i + j) / 2) (by kernel_rfl) (by kernel_rfl) Try.underlying75 (by kernel_rfl) (by omega) (by omega)) ?_
    refine ql (.int .i32 (rdI L ((i + j) / 2))) (by kernel_rfl) (R_load (p := ad5.add ((i + j) / 2).toNat) (by kernel_rfl) (by kernel_rfl) (by kernel_rfl) (HS.old0 (hr.at_ (ci_rd (i := (i + j) / 2) (by omega) (by omega))))) ?_
    refine ql (.int .i32 x) (by kernel_rfl) (by kernel_rfl) ?_
    refine qc (f := 90) (args := #[.int .i32 (rdI L ((i + j) / 2)), .int .i32 x]) (by kernel_rfl) (R_call #[.int .i32 (rdI L ((i + j) / 2)), .int .i32 x] Try.func90 (by kernel_rfl) (by kernel_rfl) (by kernel_rfl)) ?_
    by_cases hv : rdI L ((i + j) / 2) < x
    · skip
      have hdx : decide (rdI L ((i + j) / 2) < x) = true := decide_eq_true hv
      refine (cless (rdI L ((i + j) / 2)) x _).mono ?_
      rintro e W6 ⟨rfl, H_⟩
      rw [hdx]
      refine ⟨_, rfl, ?_⟩
      replace HS : St W (owns []) W6 [] := HS.join (F := []) (G := []) H_
      clear H_
      refine wpList_nil ?_
      refine x_then ?_
      refine wp_cond_true (by kernel_rfl) ?_
      refine wp_region_lit ?_
      refine ql (.int .i64 ((i + j) / 2)) (by kernel_rfl) (by kernel_rfl) ?_
      refine ql (.int .i64 (((i + j) / 2) + 1)) (by kernel_rfl) (R_int (by kernel_rfl) (w64 (by omega))) ?_
      refine ql (.int .i64 (((i + j) / 2) + 1)) (by kernel_rfl) (by kernel_rfl) ?_
      refine wpList_nil ?_
      refine x_inb ?_
      refine x_then ?_
      exact ⟨(j).toNat - (((i + j) / 2) + 1).toNat, by omega, (fun k_ : Nat => List.getD ((.slice (some ad5) L.length c) :: (.int .i32 x) :: undef :: undef :: (.int .i64 0) :: (.bool false) :: (.int .i64 (L.length : Int)) :: (.int .i64 (((i + j) / 2) + 1)) :: (.int .i64 j) :: (.int .i64 ((i + j) / 2)) :: (.slice (some ad5) L.length c) :: (.int .i64 (L.length : Int)) :: (.int .i64 (L.length : Int)) :: (.int .i64 i) :: (.int .i64 j) :: (.bool true) :: (.int .i64 i) :: (.int .i64 j) :: (.int .i64 (i + j)) :: (.int .u64 (i + j)) :: (.int .u64 ((i + j) / 2)) :: (.int .i64 ((i + j) / 2)) :: (.slice (some ad5) L.length c) :: (.int .i64 ((i + j) / 2)) :: (.pointer (some (ad5.add ((i + j) / 2).toNat))) :: (.int .i32 (rdI L ((i + j) / 2))) :: (.int .i32 x) :: (.bool true) :: (.int .i64 ((i + j) / 2)) :: (.int .i64 (((i + j) / 2) + 1)) :: ((J1 30)) :: undef :: undef :: undef :: undef :: undef :: undef :: undef :: undef :: undef :: undef :: undef :: undef :: undef :: undef :: undef :: undef :: undef :: undef :: undef :: undef :: undef :: undef :: undef :: []) k_ undef), ((i + j) / 2) + 1, j, congrArg Fr (by kernel_rfl), rfl, (bs_right hP hs hm.1 hm.2 hv), HS⟩
    · skip
      have hdx : decide (rdI L ((i + j) / 2) < x) = false := decide_eq_false hv
      refine (cless (rdI L ((i + j) / 2)) x _).mono ?_
      rintro e W7 ⟨rfl, H_⟩
      rw [hdx]
      refine ⟨_, rfl, ?_⟩
      replace HS : St W (owns []) W7 [] := HS.join (F := []) (G := []) H_
      clear H_
      refine wpList_nil ?_
      refine x_then ?_
      refine wp_cond_false (by kernel_rfl) ?_
      refine wp_region_lit ?_
      refine ql (.int .i64 ((i + j) / 2)) (by kernel_rfl) (by kernel_rfl) ?_
      refine ql (.int .i64 ((i + j) / 2)) (by kernel_rfl) (by kernel_rfl) ?_
      refine wpList_nil ?_
      refine x_inb ?_
      refine x_then ?_
      exact ⟨((i + j) / 2).toNat - (i).toNat, by omega, (fun k_ : Nat => List.getD ((.slice (some ad5) L.length c) :: (.int .i32 x) :: undef :: undef :: (.int .i64 0) :: (.bool false) :: (.int .i64 (L.length : Int)) :: (.int .i64 i) :: (.int .i64 ((i + j) / 2)) :: (.int .i64 ((i + j) / 2)) :: (.slice (some ad5) L.length c) :: (.int .i64 (L.length : Int)) :: (.int .i64 (L.length : Int)) :: (.int .i64 i) :: (.int .i64 j) :: (.bool true) :: (.int .i64 i) :: (.int .i64 j) :: (.int .i64 (i + j)) :: (.int .u64 (i + j)) :: (.int .u64 ((i + j) / 2)) :: (.int .i64 ((i + j) / 2)) :: (.slice (some ad5) L.length c) :: (.int .i64 ((i + j) / 2)) :: (.pointer (some (ad5.add ((i + j) / 2).toNat))) :: (.int .i32 (rdI L ((i + j) / 2))) :: (.int .i32 x) :: (.bool false) :: ((J1 28)) :: ((J1 29)) :: (.int .i64 ((i + j) / 2)) :: undef :: undef :: undef :: undef :: undef :: undef :: undef :: undef :: undef :: undef :: undef :: undef :: undef :: undef :: undef :: undef :: undef :: undef :: undef :: undef :: undef :: undef :: undef :: []) k_ undef), i, (i + j) / 2, congrArg Fr (by kernel_rfl), rfl, (bs_left hP hs hm.1 hm.2 hv), HS⟩
  · skip
    refine ql (.bool false) (by kernel_rfl) (R_nbool (p := i < j) (by kernel_rfl) (hc4)) ?_
    refine wpList_nil ?_
    refine x_then ?_
    refine wp_cond_false (by kernel_rfl) ?_
    refine wp_exit ?_
    refine x_thenE ?_
    refine x_thenE ?_
    refine x_hit ?_
    refine x_then ?_
    refine wp_seq ?_
    obtain rfl : i = j := by omega
    refine wp_region_lit ?_
    refine ql (.int .i64 i) (by kernel_rfl) (by kernel_rfl) ?_
    refine ql (.int .i64 i) (by kernel_rfl) (by kernel_rfl) ?_
    refine ql (.int .i64 (L.length : Int)) (by kernel_rfl) (by kernel_rfl) ?_
    by_cases hc8 : i < (L.length : Int)
    · skip
      refine ql (.bool true) (by kernel_rfl) (R_bool (p := i < (L.length : Int)) (by kernel_rfl) (hc8)) ?_
      refine ql (.bool true) (by kernel_rfl) (by kernel_rfl) ?_
      refine ql (.slice A L.length c) (by kernel_rfl) (by kernel_rfl) ?_
      refine ql (.int .i64 i) (by kernel_rfl) (by kernel_rfl) ?_
      obtain ⟨ad9, rfl⟩ := Rd.isSome_ hr (by rw [ci_len]; omega)
      refine ql (.pointer (some (ad9.add i.toNat))) (by kernel_rfl) (R_indexA1 (k := .i64) (p := ad9) (n := L.length) (c := c) (i := i) (by kernel_rfl) (by kernel_rfl) Try.underlying75 (by kernel_rfl) (by omega) (by omega)) ?_
      refine ql (.int .i32 (rdI L i)) (by kernel_rfl) (R_load (p := ad9.add i.toNat) (by kernel_rfl) (by kernel_rfl) (by kernel_rfl) (HS.old0 (hr.at_ (ci_rd (i := i) (by omega) (by omega))))) ?_
      refine ql (.int .i32 x) (by kernel_rfl) (by kernel_rfl) ?_
      by_cases hc10 : (rdI L i) = x
      · skip
        refine ql (.bool true) (by kernel_rfl) (R_beq (b := (rdI L i == x)) (by kernel_rfl) (beq_t (hc10))) ?_
        refine ql (.bool true) (by kernel_rfl) (by kernel_rfl) ?_
        refine qln (by kernel_rfl) ?_
        refine qln (by kernel_rfl) ?_
        refine qln (by kernel_rfl) ?_
        refine qln (by kernel_rfl) ?_
        refine qln (by kernel_rfl) ?_
        refine qln (by kernel_rfl) ?_
        refine qln (by kernel_rfl) ?_
        refine qln (by kernel_rfl) ?_
        refine qln (by kernel_rfl) ?_
        refine ql (.bool true) (by kernel_rfl) (by kernel_rfl) ?_
        refine ql (.bool true) (by kernel_rfl) (by kernel_rfl) ?_
        refine ql (.int .i64 i) (by kernel_rfl) (by kernel_rfl) ?_
        refine ql (.bool true) (by kernel_rfl) (by kernel_rfl) ?_
        refine wpList_nil ?_
        refine x_then ?_
        refine wp_ret ?_
        refine ret_ (.tuple #[.int .i64 i, .bool true]) (by kernel_rfl) ?_
        exact ⟨by rw [rk_at hP, decide_eq_true ((bs_has hP hs (by omega)).2 hc10)], HS⟩
      · skip
        refine ql (.bool false) (by kernel_rfl) (R_beq (b := (rdI L i == x)) (by kernel_rfl) (beq_f (hc10))) ?_
        refine ql (.bool false) (by kernel_rfl) (by kernel_rfl) ?_
        refine ql (.slice (some ad9) L.length c) (by kernel_rfl) (by kernel_rfl) ?_
        refine ql (.int .i64 i) (by kernel_rfl) (by kernel_rfl) ?_
        refine ql (.pointer (some (ad9.add i.toNat))) (by kernel_rfl) (R_indexA1 (k := .i64) (p := ad9) (n := L.length) (c := c) (i := i) (by kernel_rfl) (by kernel_rfl) Try.underlying75 (by kernel_rfl) (by omega) (by omega)) ?_
        refine ql (.int .i32 (rdI L i)) (by kernel_rfl) (R_load (p := ad9.add i.toNat) (by kernel_rfl) (by kernel_rfl) (by kernel_rfl) (HS.old0 (hr.at_ (ci_rd (i := i) (by omega) (by omega))))) ?_
        refine qc (f := 91) (args := #[.int .i32 (rdI L i)]) (by kernel_rfl) (R_call #[.int .i32 (rdI L i)] Try.func91 (by kernel_rfl) (by kernel_rfl) (by kernel_rfl)) ?_
        refine (snan (rdI L i) _).mono ?_
        rintro e W11 ⟨rfl, H_⟩
        refine ⟨_, rfl, ?_⟩
        replace HS : St W (owns []) W11 [] := HS.join (F := []) (G := []) H_
        clear H_
        refine ql (.bool false) (by kernel_rfl) (by kernel_rfl) ?_
        refine qln (by kernel_rfl) ?_
        refine qln (by kernel_rfl) ?_
        refine ql (.bool false) (by kernel_rfl) (by kernel_rfl) ?_
        refine ql (.bool false) (by kernel_rfl) (by kernel_rfl) ?_
        refine ql (.bool false) (by kernel_rfl) (by kernel_rfl) ?_
        refine ql (.int .i64 i) (by kernel_rfl) (by kernel_rfl) ?_
        refine ql (.bool false) (by kernel_rfl) (by kernel_rfl) ?_
        refine wpList_nil ?_
        refine x_then ?_
        refine wp_ret ?_
        refine ret_ (.tuple #[.int .i64 i, .bool false]) (by kernel_rfl) ?_
        exact ⟨by rw [rk_at hP, decide_eq_false (fun h_ => hc10 ((bs_has hP hs (by omega)).1 h_))], HS⟩
    · skip
      refine ql (.bool false) (by kernel_rfl) (R_nbool (p := i < (L.length : Int)) (by kernel_rfl) (hc8)) ?_
      refine ql (.bool false) (by kernel_rfl) (by kernel_rfl) ?_
      refine qln (by kernel_rfl) ?_
      refine qln (by kernel_rfl) ?_
      refine qln (by kernel_rfl) ?_
      refine qln (by kernel_rfl) ?_
      refine qln (by kernel_rfl) ?_
      refine qln (by kernel_rfl) ?_
      refine qln (by kernel_rfl) ?_
      refine qln (by kernel_rfl) ?_
      refine qln (by kernel_rfl) ?_
      refine qln (by kernel_rfl) ?_
      refine qln (by kernel_rfl) ?_
      refine qln (by kernel_rfl) ?_
      refine qln (by kernel_rfl) ?_
      refine qln (by kernel_rfl) ?_
      refine qln (by kernel_rfl) ?_
      refine qln (by kernel_rfl) ?_
      refine qln (by kernel_rfl) ?_
      refine ql (.bool false) (by kernel_rfl) (by kernel_rfl) ?_
      refine ql (.int .i64 i) (by kernel_rfl) (by kernel_rfl) ?_
      refine ql (.bool false) (by kernel_rfl) (by kernel_rfl) ?_
      refine wpList_nil ?_
      refine x_then ?_
      refine wp_ret ?_
      refine ret_ (.tuple #[.int .i64 i, .bool false]) (by kernel_rfl) ?_
      exact ⟨by rw [rk_at hP, decide_eq_false (bs_hasN hP hc8)], HS⟩

open Go.Shelf

set_option maxRecDepth 100000 in
set_option maxHeartbeats 1000000 in
theorem sins_end (A : Option Addr) (c gv : Nat) (L : List Int) (x : Int) (W : World) (M : Nat → Prop) (HS : St W M W [row A L.length c (ci .i32 L) 21 1, row (some ⟨gv, 0, none⟩) 1 1 (ci .i32 ([x])) 21 1]) (hl : L.length ≤ 100000) : Calls Try.prog 65 #[.slice A L.length c, .int .i64 (L.length : Int), .slice (some ⟨gv, 0, none⟩) 1 1] W fun e W' => ∃ A' c', e = .returned (.slice A' (insA L L.length x).length c') ∧ St W M W' [row A' (insA L L.length x).length c' (ci .i32 (insA L L.length x)) 21 1] := by
  refine calls_enter ((.slice A L.length c) :: (.int .i64 (L.length : Int)) :: (.slice (some ⟨gv, 0, none⟩) 1 1) :: undef :: undef :: undef :: undef :: undef :: undef :: undef :: undef :: undef :: undef :: undef :: undef :: undef :: undef :: undef :: undef :: undef :: undef :: undef :: undef :: undef :: undef :: undef :: undef :: undef :: undef :: undef :: undef :: undef :: undef :: undef :: undef :: undef :: undef :: undef :: undef :: undef :: undef :: undef :: undef :: undef :: undef :: undef :: undef :: undef :: undef :: undef :: undef :: undef :: undef :: undef :: undef :: undef :: undef :: undef :: undef :: undef :: undef :: undef :: undef :: undef :: undef :: undef :: undef :: undef :: undef :: undef :: undef :: undef :: undef :: undef :: undef :: undef :: undef :: undef :: undef :: undef :: undef :: undef :: undef :: undef :: undef :: undef :: undef :: undef :: undef :: undef :: undef :: undef :: undef :: undef :: undef :: []) Try.func65 rfl (by kernel_rfl) ?_
  refine wp_seq ?_
  refine wp_region_lit ?_
  refine ql (.slice none 0 0) (by kernel_rfl) (by kernel_rfl) ?_
  refine wpList_nil ?_
  refine x_then ?_
  refine wp_seq ?_
  refine wp_region_lit ?_
  refine ql (.slice A L.length c) (by kernel_rfl) (by kernel_rfl) ?_
  refine ql (.int .i64 (L.length : Int)) (by kernel_rfl) (by kernel_rfl) ?_
  refine ql (.slice (cutA A c L.length 1) (L.length - L.length) (c - L.length)) (by kernel_rfl) (R_sliceL (k := .i64) (A := A) (n := L.length) (c := c) (i := (L.length : Int)) (by kernel_rfl) (by kernel_rfl) Try.underlying75 (by kernel_rfl) (by omega) (by omega)) ?_
  refine wpList_nil ?_
  refine x_then ?_
  refine wp_seq ?_
  refine wp_region_lit ?_
  refine ql (.slice (some ⟨gv, 0, none⟩) 1 1) (by kernel_rfl) (by kernel_rfl) ?_
  refine ql (.int .i64 1) (by kernel_rfl) (by kernel_rfl) ?_
  refine ql (.int .i64 1) (by kernel_rfl) (by kernel_rfl) ?_
  refine wpList_nil ?_
  refine x_then ?_
  refine wp_seq ?_
  refine wp_seq ?_
  refine wp_region_lit ?_
  refine ql (.int .i64 1) (by kernel_rfl) (by kernel_rfl) ?_
  refine ql (.bool false) (by kernel_rfl) (R_beq (b := ((1 : Int) == 0)) (by kernel_rfl) (by decide)) ?_
  refine wpList_nil ?_
  refine x_then ?_
  refine wp_cond_false (by kernel_rfl) ?_
  refine wp_skip ?_
  refine x_then ?_
  refine wp_seq ?_
  refine wp_region_lit ?_
  refine ql (.slice A L.length c) (by kernel_rfl) (by kernel_rfl) ?_
  refine ql (.int .i64 (L.length : Int)) (by kernel_rfl) (by kernel_rfl) ?_
  refine ql (.int .i64 (L.length : Int)) (by kernel_rfl) (by kernel_rfl) ?_
  refine wpList_nil ?_
  refine x_then ?_
  refine wp_seq ?_
  refine wp_seq ?_
  refine wp_region_lit ?_
  refine ql (.int .i64 (L.length : Int)) (by kernel_rfl) (by kernel_rfl) ?_
  refine ql (.int .i64 (L.length : Int)) (by kernel_rfl) (by kernel_rfl) ?_
  refine ql (.bool true) (by kernel_rfl) (R_beq (b := ((L.length : Int) == (L.length : Int))) (by kernel_rfl) (beq_t (by omega))) ?_
  refine wpList_nil ?_
  refine x_then ?_
  refine wp_cond_true (by kernel_rfl) ?_
  refine wp_seq ?_
  refine wp_region_lit ?_
  refine ql (.slice A L.length c) (by kernel_rfl) (by kernel_rfl) ?_
  refine ql (.slice (some ⟨gv, 0, none⟩) 1 1) (by kernel_rfl) (by kernel_rfl) ?_
  obtain ⟨xs4, xs4_⟩ : ∃ z_ : List Int, z_ = L ++ ([x]) := ⟨_, rfl⟩
  have xs4l : xs4.length = L.length + 1 := by rw [xs4_, List.length_append] <;> (try simp only [List.length_cons, List.length_nil]) <;> omega
  refine ka1 HS 0 rfl (Src.of_row HS (i := 1) rfl ci_one) [.int .i32 0] 4 xs4.length (ci .i32 xs4) (by omega) (by rw [xs4_, ci_app]) (by kernel_rfl) (by kernel_rfl) (by kernel_rfl) Try.underlying75 (by kernel_rfl) (by kernel_rfl) (by kernel_rfl) (by kernel_rfl) (by decide) (by omega) (by omega) ?_
  intro A1 c2 W3 H_
  replace HS : St W M W3 [row A1 xs4.length c2 (ci .i32 xs4) 21 1, row (some ⟨gv, 0, none⟩) 1 1 (ci .i32 ([x])) 21 1] := H_
  clear H_
  refine ql (.slice A1 xs4.length c2) (by kernel_rfl) (by kernel_rfl) ?_
  refine wpList_nil ?_
  refine x_then ?_
  refine wp_ret ?_
  refine x_thenR ?_
  refine ret_ (.slice A1 xs4.length c2) (by kernel_rfl) ?_
  replace HS : St W M W3 [row A1 xs4.length c2 (ci .i32 xs4) 21 1] := St.tail (F := [row (some ⟨gv, 0, none⟩) 1 1 (ci .i32 ([x])) 21 1]) (HS.perm (perm_ [1, 0] (by kernel_rfl) rfl))
  have hq : xs4 = insA L L.length x := by rw [xs4_]; unfold insA; simp
  rw [← hq]
  exact ⟨_, _, rfl, HS⟩

set_option maxRecDepth 100000 in
set_option maxHeartbeats 1000000 in
theorem sins_mid (g c gv k : Nat) (L : List Int) (sp : List Value) (x : Int) (W : World) (M : Nat → Prop) (HS : St W M W [blk g (ci .i32 L ++ sp) 21, blk gv [.int .i32 x] 21]) (hl : L.length ≤ 100000) (hc : L.length + sp.length = c) (hm : c ≤ maxLen) (hk : k < L.length) : Calls Try.prog 65 #[.slice (some ⟨g, 0, none⟩) L.length c, .int .i64 (k : Int), .slice (some ⟨gv, 0, none⟩) 1 1] W fun e W' => ∃ A' c', e = .returned (.slice A' (insA L k x).length c') ∧ St W M W' [row A' (insA L k x).length c' (ci .i32 (insA L k x)) 21 1] := by
  have hm63 : maxLen = 9223372036854775807 := rfl
  have hcl : (ci .i32 L).length = L.length := ci_len _ _
  have hcc : (ci .i32 L ++ sp).length = c := by rw [List.length_append, hcl]; exact hc
  refine calls_enter ((.slice (some ⟨g, 0, none⟩) L.length c) :: (.int .i64 (k : Int)) :: (.slice (some ⟨gv, 0, none⟩) 1 1) :: undef :: undef :: undef :: undef :: undef :: undef :: undef :: undef :: undef :: undef :: undef :: undef :: undef :: undef :: undef :: undef :: undef :: undef :: undef :: undef :: undef :: undef :: undef :: undef :: undef :: undef :: undef :: undef :: undef :: undef :: undef :: undef :: undef :: undef :: undef :: undef :: undef :: undef :: undef :: undef :: undef :: undef :: undef :: undef :: undef :: undef :: undef :: undef :: undef :: undef :: undef :: undef :: undef :: undef :: undef :: undef :: undef :: undef :: undef :: undef :: undef :: undef :: undef :: undef :: undef :: undef :: undef :: undef :: undef :: undef :: undef :: undef :: undef :: undef :: undef :: undef :: undef :: undef :: undef :: undef :: undef :: undef :: undef :: undef :: undef :: undef :: undef :: undef :: undef :: undef :: undef :: undef :: []) Try.func65 rfl (by kernel_rfl) ?_
  refine wp_seq ?_
  refine wp_region_lit ?_
  refine ql (.slice none 0 0) (by kernel_rfl) (by kernel_rfl) ?_
  refine wpList_nil ?_
  refine x_then ?_
  refine wp_seq ?_
  refine wp_region_lit ?_
  refine ql (.slice (some ⟨g, 0, none⟩) L.length c) (by kernel_rfl) (by kernel_rfl) ?_
  refine ql (.int .i64 (k : Int)) (by kernel_rfl) (by kernel_rfl) ?_
  refine ql (.slice (some ⟨g, k, none⟩) (L.length - (k)) (c - (k))) (by kernel_rfl) (R_eq (R_sliceL (k := .i64) (A := (some ⟨g, 0, none⟩)) (n := L.length) (c := c) (i := (k : Int)) (by kernel_rfl) (by kernel_rfl) Try.underlying75 (by kernel_rfl) (by omega) (by omega)) (by rw [show ((k : Int)).toNat = k from by omega, cutA_at (by omega)])) ?_
  refine wpList_nil ?_
  refine x_then ?_
  refine wp_seq ?_
  refine wp_region_lit ?_
  refine ql (.slice (some ⟨gv, 0, none⟩) 1 1) (by kernel_rfl) (by kernel_rfl) ?_
  refine ql (.int .i64 1) (by kernel_rfl) (by kernel_rfl) ?_
  refine ql (.int .i64 1) (by kernel_rfl) (by kernel_rfl) ?_
  refine wpList_nil ?_
  refine x_then ?_
  refine wp_seq ?_
  refine wp_seq ?_
  refine wp_region_lit ?_
  refine ql (.int .i64 1) (by kernel_rfl) (by kernel_rfl) ?_
  refine ql (.bool false) (by kernel_rfl) (R_beq (b := ((1 : Int) == 0)) (by kernel_rfl) (by decide)) ?_
  refine wpList_nil ?_
  refine x_then ?_
  refine wp_cond_false (by kernel_rfl) ?_
  refine wp_skip ?_
  refine x_then ?_
  refine wp_seq ?_
  refine wp_region_lit ?_
  refine ql (.slice (some ⟨g, 0, none⟩) L.length c) (by kernel_rfl) (by kernel_rfl) ?_
  refine ql (.int .i64 (L.length : Int)) (by kernel_rfl) (by kernel_rfl) ?_
  refine ql (.int .i64 (L.length : Int)) (by kernel_rfl) (by kernel_rfl) ?_
  refine wpList_nil ?_
  refine x_then ?_
  refine wp_seq ?_
  refine wp_seq ?_
  refine wp_region_lit ?_
  refine ql (.int .i64 (k : Int)) (by kernel_rfl) (by kernel_rfl) ?_
  refine ql (.int .i64 (L.length : Int)) (by kernel_rfl) (by kernel_rfl) ?_
  refine ql (.bool false) (by kernel_rfl) (R_beq (b := ((k : Int) == (L.length : Int))) (by kernel_rfl) (beq_f (by omega))) ?_
  refine wpList_nil ?_
  refine x_then ?_
  refine wp_cond_false (by kernel_rfl) ?_
  refine wp_skip ?_
  refine x_then ?_
  refine wp_seq ?_
  refine wp_seq ?_
  refine wp_region_lit ?_
  refine ql (.int .i64 (L.length : Int)) (by kernel_rfl) (by kernel_rfl) ?_
  refine ql (.int .i64 1) (by kernel_rfl) (by kernel_rfl) ?_
  refine ql (.int .i64 ((L.length : Int) + 1)) (by kernel_rfl) (R_int (by kernel_rfl) (w64 (by omega))) ?_
  refine ql (.slice (some ⟨g, 0, none⟩) L.length c) (by kernel_rfl) (by kernel_rfl) ?_
  refine ql (.int .i64 (c : Int)) (by kernel_rfl) (by kernel_rfl) ?_
  by_cases hc1 : ((L.length : Int) + 1) > (c : Int)
  · skip
    refine ql (.bool true) (by kernel_rfl) (R_bool (p := ((L.length : Int) + 1) > (c : Int)) (by kernel_rfl) (hc1)) ?_
    refine wpList_nil ?_
    refine x_then ?_
    refine wp_cond_true (by kernel_rfl) ?_
    refine wp_seq ?_
    refine wp_region_lit ?_
    refine ql (.slice (some ⟨g, 0, none⟩) L.length c) (by kernel_rfl) (by kernel_rfl) ?_
    refine ql (.int .i64 (k : Int)) (by kernel_rfl) (by kernel_rfl) ?_
    refine ql (.slice (some ⟨g, 0, none⟩) k c) (by kernel_rfl) (R_eq (R_sliceH (z := 1) (e := 21) (k := .i64) (A := (some ⟨g, 0, none⟩)) (n := L.length) (c := c) (i := (k : Int)) (by kernel_rfl) (by kernel_rfl) Try.underlying75 (by kernel_rfl) (by omega) (by omega)) (by rw [show ((k : Int)).toNat = k from by omega])) ?_
    refine ql (.int .i64 (L.length : Int)) (by kernel_rfl) (by kernel_rfl) ?_
    refine ql (.int .i64 1) (by kernel_rfl) (by kernel_rfl) ?_
    refine ql (.int .i64 ((L.length : Int) + 1)) (by kernel_rfl) (R_int (by kernel_rfl) (w64 (by omega))) ?_
    refine ql (.int .i64 (k : Int)) (by kernel_rfl) (by kernel_rfl) ?_
    refine ql (.int .i64 (((L.length : Int) + 1) - (k : Int))) (by kernel_rfl) (R_int (by kernel_rfl) (w64 (by omega))) ?_
    refine kaz (n := k) (c := c) (k := (L.length + 1 - k)) (kn := .i64) (z := .int .i32 0) (by_ := 4) HS 0 rfl (by kernel_rfl) (by kernel_rfl) (k_eq (k := .i64) (m := ((L.length : Int) + 1) - (k : Int)) (by kernel_rfl) (by omega)) Try.underlying75 Try.underlying3 (by kernel_rfl) rfl (by kernel_rfl) (by kernel_rfl) (L.length + 1) (by omega) (by omega) (by omega) (by omega) (by omega) (by omega) ?_
    intro g2 c3 W4 hge hle H_
    replace HS : St W M W4 [blk g2 ((ci .i32 L ++ sp).take k ++ (List.replicate (L.length + 1 - k) (Value.int .i32 0) ++ List.replicate (c3 - (L.length + 1)) (Value.int .i32 0))) 21, blk g (ci .i32 L ++ sp) 21, blk gv [.int .i32 x] 21] := H_
    clear H_
    have hspn : sp = [] := List.eq_nil_of_length_eq_zero (by omega)
    have hZ : ((List.replicate (L.length + 1 - k) (Value.int .i32 0) ++ List.replicate (c3 - (L.length + 1)) (Value.int .i32 0))).length = c3 - k := by rw [List.length_append, List.length_replicate, List.length_replicate]; omega
    have htk : (ci .i32 L ++ sp).take k = (ci .i32 L).take k := List.take_append_of_le_length (by omega)
    rw [htk] at HS
    obtain ⟨B1, B2, hb1, hb2, hl1, hl2, ht2⟩ := grow_eq (C := ci .i32 L) (Z := (List.replicate (L.length + 1 - k) (Value.int .i32 0) ++ List.replicate (c3 - (L.length + 1)) (Value.int .i32 0))) (x := .int .i32 x) (K := k) (by omega) (by omega)
    have hB0 : ((ci .i32 L).take k ++ (List.replicate (L.length + 1 - k) (Value.int .i32 0) ++ List.replicate (c3 - (L.length + 1)) (Value.int .i32 0))).length = c3 := by rw [List.length_append, List.length_take, hZ]; omega
    refine ql (.slice (some ⟨g2, 0, none⟩) (L.length + 1) c3) (by kernel_rfl) (by kernel_rfl) ?_
    refine wpList_nil ?_
    refine x_then ?_
    refine wp_seq ?_
    refine wp_region_lit ?_
    refine ql (.slice (some ⟨g2, 0, none⟩) (L.length + 1) c3) (by kernel_rfl) (by kernel_rfl) ?_
    refine ql (.int .i64 (k : Int)) (by kernel_rfl) (by kernel_rfl) ?_
    refine ql (.slice (some ⟨g2, k, none⟩) ((L.length + 1) - (k)) (c3 - (k))) (by kernel_rfl) (R_eq (R_sliceL (k := .i64) (A := (some ⟨g2, 0, none⟩)) (n := (L.length + 1)) (c := c3) (i := (k : Int)) (by kernel_rfl) (by kernel_rfl) Try.underlying75 (by kernel_rfl) (by omega) (by omega)) (by rw [show ((k : Int)).toNat = k from by omega, cutA_at (by omega)])) ?_
    refine ql (.slice (some ⟨gv, 0, none⟩) 1 1) (by kernel_rfl) (by kernel_rfl) ?_
    refine kcpy (o := k) (n := ((L.length + 1) - (k))) (c := (c3 - (k))) (m := 1) (c2 := 1) (ad := ⟨gv, 0, none⟩) (xs := [.int .i32 x]) HS 0 rfl (by kernel_rfl) (by kernel_rfl) (by kernel_rfl) Try.underlying75 (by kernel_rfl) B1 (by simp only [List.length_singleton, Nat.min_def]; split <;> omega) (cells_at (fun j v hv => by rw [Nat.zero_add]; exact HS.cell (i := 2) rfl hv)) (by simp only [List.length_singleton]; omega) (one_ (by kernel_rfl)) hb1 ?_
    intro W5 H_
    replace HS : St W M W5 [blk g2 B1 21, blk g (ci .i32 L ++ sp) 21, blk gv [.int .i32 x] 21] := H_
    clear H_
    refine wpList_nil ?_
    refine x_then ?_
    refine wp_seq ?_
    refine rg_still HS 8 (by kernel_rfl) (by kernel_rfl) ?_
    intro W6 H_ HK_
    simp only [List.take_succ_cons, List.take_zero, List.drop_succ_cons, List.drop_zero]
    replace HS : St W M W6 [blk g2 B1 21, blk g (ci .i32 L ++ sp) 21, blk gv [.int .i32 x] 21] := H_
    clear H_
    clear HK_
    refine qs (.slice (some ⟨g2, 0, none⟩) (L.length + 1) c3) (by kernel_rfl) (by kernel_rfl) ?_
    refine qs (.int .i64 (k : Int)) (by kernel_rfl) (by kernel_rfl) ?_
    refine qs (.int .i64 1) (by kernel_rfl) (by kernel_rfl) ?_
    refine qs (.int .i64 ((k : Int) + 1)) (by kernel_rfl) (R_int (by kernel_rfl) (w64 (by omega))) ?_
    refine qs (.slice (some ⟨g2, k + 1, none⟩) ((L.length + 1) - (k + 1)) (c3 - (k + 1))) (by kernel_rfl) (R_eq (R_sliceL (k := .i64) (A := (some ⟨g2, 0, none⟩)) (n := (L.length + 1)) (c := c3) (i := (k : Int) + 1) (by kernel_rfl) (by kernel_rfl) Try.underlying75 (by kernel_rfl) (by omega) (by omega)) (by rw [show ((k : Int) + 1).toNat = k + 1 from by omega, cutA_at (by omega)])) ?_
    refine qs (.slice (some ⟨g, 0, none⟩) L.length c) (by kernel_rfl) (by kernel_rfl) ?_
    refine qs (.int .i64 (k : Int)) (by kernel_rfl) (by kernel_rfl) ?_
    refine qs (.slice (some ⟨g, k, none⟩) (L.length - (k)) (c - (k))) (by kernel_rfl) (R_eq (R_sliceL (k := .i64) (A := (some ⟨g, 0, none⟩)) (n := L.length) (c := c) (i := (k : Int)) (by kernel_rfl) (by kernel_rfl) Try.underlying75 (by kernel_rfl) (by omega) (by omega)) (by rw [show ((k : Int)).toNat = k from by omega, cutA_at (by omega)])) ?_
    refine wpStill_nil ?_
    refine kcpy (o := k + 1) (n := ((L.length + 1) - (k + 1))) (c := (c3 - (k + 1))) (m := (L.length - (k))) (c2 := (c - (k))) (ad := ⟨g, k, none⟩) (xs := (ci .i32 L).drop k) HS 0 rfl (by kernel_rfl) (by kernel_rfl) (by kernel_rfl) Try.underlying75 (by kernel_rfl) B2 (by rw [List.length_drop, hcl]; simp only [Nat.min_def]; split <;> omega) (cells_at (fun j v hv => HS.cell (i := 1) rfl (src_drop hv))) (by rw [List.length_drop, hcl]; omega) (fun v hv => ci_one v (List.mem_of_mem_drop hv)) hb2 ?_
    intro W7 H_
    replace HS : St W M W7 [blk g2 B2 21, blk g (ci .i32 L ++ sp) 21, blk gv [.int .i32 x] 21] := H_
    clear H_
    refine wpList_nil ?_
    refine x_then ?_
    refine wp_seq ?_
    refine wp_region_lit ?_
    refine ql (.slice (some ⟨g2, 0, none⟩) (L.length + 1) c3) (by kernel_rfl) (by kernel_rfl) ?_
    refine ql (.slice (some ⟨g2, 0, none⟩) (L.length + 1) c3) (by kernel_rfl) (by kernel_rfl) ?_
    refine wpList_nil ?_
    refine x_then ?_
    refine wp_ret ?_
    refine x_thenR ?_
    refine ret_ (.slice (some ⟨g2, 0, none⟩) (L.length + 1) c3) (by kernel_rfl) ?_
    replace HS : St W M W7 [blk g2 B2 21] := St.tail (F := [blk g (ci .i32 L ++ sp) 21, blk gv [.int .i32 x] 21]) (HS.perm (perm_ [1, 2, 0] (by kernel_rfl) rfl))
    have hil : (insA L k x).length = L.length + 1 := insA_len (by omega)
    replace HS := HS.closeRow (i := 0) rfl (L.length + 1) c3 (ci .i32 (insA L k x)) (by omega) (by rw [ci_insA, ← ht2, hcl]) (by omega) (by omega)
    rw [hil]
    exact ⟨_, _, rfl, HS⟩
  · skip
    refine ql (.bool false) (by kernel_rfl) (R_nbool (p := ((L.length : Int) + 1) > (c : Int)) (by kernel_rfl) (hc1)) ?_
    refine wpList_nil ?_
    refine x_then ?_
    refine wp_cond_false (by kernel_rfl) ?_
    refine wp_skip ?_
    refine x_then ?_
    refine wp_seq ?_
    refine wp_region_lit ?_
    refine ql (.slice (some ⟨g, 0, none⟩) L.length c) (by kernel_rfl) (by kernel_rfl) ?_
    refine ql (.int .i64 (L.length : Int)) (by kernel_rfl) (by kernel_rfl) ?_
    refine ql (.int .i64 1) (by kernel_rfl) (by kernel_rfl) ?_
    refine ql (.int .i64 ((L.length : Int) + 1)) (by kernel_rfl) (R_int (by kernel_rfl) (w64 (by omega))) ?_
    refine ql (.slice (some ⟨g, 0, none⟩) (L.length + 1) c) (by kernel_rfl) (R_eq (R_sliceH (z := 1) (e := 21) (k := .i64) (A := (some ⟨g, 0, none⟩)) (n := L.length) (c := c) (i := (L.length : Int) + 1) (by kernel_rfl) (by kernel_rfl) Try.underlying75 (by kernel_rfl) (by omega) (by omega)) (by rw [show ((L.length : Int) + 1).toNat = L.length + 1 from by omega])) ?_
    refine ql (.slice (some ⟨g, 0, none⟩) (L.length + 1) c) (by kernel_rfl) (by kernel_rfl) ?_
    refine wpList_nil ?_
    refine x_then ?_
    refine wp_seq ?_
    refine wp_seq ?_
    refine wp_region_lit ?_
    refine ql (.slice (some ⟨gv, 0, none⟩) 1 1) (by kernel_rfl) (by kernel_rfl) ?_
    refine ql (.slice (some ⟨g, 0, none⟩) (L.length + 1) c) (by kernel_rfl) (by kernel_rfl) ?_
    refine ql (.int .i64 (k : Int)) (by kernel_rfl) (by kernel_rfl) ?_
    refine ql (.int .i64 1) (by kernel_rfl) (by kernel_rfl) ?_
    refine ql (.int .i64 ((k : Int) + 1)) (by kernel_rfl) (R_int (by kernel_rfl) (w64 (by omega))) ?_
    refine ql (.slice (some ⟨g, k + 1, none⟩) ((L.length + 1) - (k + 1)) (c - (k + 1))) (by kernel_rfl) (R_eq (R_sliceL (k := .i64) (A := (some ⟨g, 0, none⟩)) (n := (L.length + 1)) (c := c) (i := (k : Int) + 1) (by kernel_rfl) (by kernel_rfl) Try.underlying75 (by kernel_rfl) (by omega) (by omega)) (by rw [show ((k : Int) + 1).toNat = k + 1 from by omega, cutA_at (by omega)])) ?_
    refine ql (.bool false) (by kernel_rfl) (R_apart (tS := 75) (tR := 4) (x := ⟨gv, 0, none⟩) (b := ⟨g, k + 1, none⟩) #[.slice (some ⟨gv, 0, none⟩) 1 1, .slice (some ⟨g, k + 1, none⟩) ((L.length + 1) - (k + 1)) (c - (k + 1))] Try.func85 (by kernel_rfl) (by kernel_rfl) (by kernel_rfl) (by kernel_rfl) (by kernel_rfl) rfl Try.underlying75 (by kernel_rfl) (HS.blkE (i := 1) rfl) (HS.blkE (i := 0) rfl) (HS.blkNe (i := 0) (j := 1) rfl rfl (by decide)) (fun h_ => by have := congrArg List.length h_; rw [hcc] at this; simp only [List.length_nil] at this; omega)) ?_
    refine ql (.bool true) (by kernel_rfl) (by kernel_rfl) ?_
    refine wpList_nil ?_
    refine x_then ?_
    refine wp_cond_true (by kernel_rfl) ?_
    refine wp_seq ?_
    refine rg_still HS 8 (by kernel_rfl) (by kernel_rfl) ?_
    intro W8 H_ HK_
    simp only [List.take_succ_cons, List.take_zero, List.drop_succ_cons, List.drop_zero]
    replace HS : St W M W8 [blk g (ci .i32 L ++ sp) 21, blk gv [.int .i32 x] 21] := H_
    clear H_
    clear HK_
    refine qs (.slice (some ⟨g, 0, none⟩) (L.length + 1) c) (by kernel_rfl) (by kernel_rfl) ?_
    refine qs (.int .i64 (k : Int)) (by kernel_rfl) (by kernel_rfl) ?_
    refine qs (.int .i64 1) (by kernel_rfl) (by kernel_rfl) ?_
    refine qs (.int .i64 ((k : Int) + 1)) (by kernel_rfl) (R_int (by kernel_rfl) (w64 (by omega))) ?_
    refine qs (.slice (some ⟨g, k + 1, none⟩) ((L.length + 1) - (k + 1)) (c - (k + 1))) (by kernel_rfl) (R_eq (R_sliceL (k := .i64) (A := (some ⟨g, 0, none⟩)) (n := (L.length + 1)) (c := c) (i := (k : Int) + 1) (by kernel_rfl) (by kernel_rfl) Try.underlying75 (by kernel_rfl) (by omega) (by omega)) (by rw [show ((k : Int) + 1).toNat = k + 1 from by omega, cutA_at (by omega)])) ?_
    refine qs (.slice (some ⟨g, 0, none⟩) (L.length + 1) c) (by kernel_rfl) (by kernel_rfl) ?_
    refine qs (.int .i64 (k : Int)) (by kernel_rfl) (by kernel_rfl) ?_
    refine qs (.slice (some ⟨g, k, none⟩) ((L.length + 1) - (k)) (c - (k))) (by kernel_rfl) (R_eq (R_sliceL (k := .i64) (A := (some ⟨g, 0, none⟩)) (n := (L.length + 1)) (c := c) (i := (k : Int)) (by kernel_rfl) (by kernel_rfl) Try.underlying75 (by kernel_rfl) (by omega) (by omega)) (by rw [show ((k : Int)).toNat = k from by omega, cutA_at (by omega)])) ?_
    refine wpStill_nil ?_
    obtain ⟨B1, B2, hb1, hb2, hl1, hl2, ht2⟩ := shift_eq (C := ci .i32 L) (sp := sp) (x := .int .i32 x) (K := k) (by omega) (by omega)
    refine kcpy (o := k + 1) (n := ((L.length + 1) - (k + 1))) (c := (c - (k + 1))) (m := ((L.length + 1) - (k))) (c2 := (c - (k))) (ad := ⟨g, k, none⟩) (xs := (ci .i32 L).drop k) HS 0 rfl (by kernel_rfl) (by kernel_rfl) (by kernel_rfl) Try.underlying75 (by kernel_rfl) B1 (by rw [List.length_drop, hcl]; simp only [Nat.min_def]; split <;> omega) (cells_at (fun j v hv => HS.cell (i := 0) rfl (src_drop hv))) (by rw [List.length_drop, hcl]; omega) (fun v hv => ci_one v (List.mem_of_mem_drop hv)) hb1 ?_
    intro W9 H_
    replace HS : St W M W9 [blk g B1 21, blk gv [.int .i32 x] 21] := H_
    clear H_
    refine wpList_nil ?_
    refine x_then ?_
    refine wp_seq ?_
    refine wp_region_lit ?_
    refine ql (.slice (some ⟨g, 0, none⟩) (L.length + 1) c) (by kernel_rfl) (by kernel_rfl) ?_
    refine ql (.int .i64 (k : Int)) (by kernel_rfl) (by kernel_rfl) ?_
    refine ql (.slice (some ⟨g, k, none⟩) ((L.length + 1) - (k)) (c - (k))) (by kernel_rfl) (R_eq (R_sliceL (k := .i64) (A := (some ⟨g, 0, none⟩)) (n := (L.length + 1)) (c := c) (i := (k : Int)) (by kernel_rfl) (by kernel_rfl) Try.underlying75 (by kernel_rfl) (by omega) (by omega)) (by rw [show ((k : Int)).toNat = k from by omega, cutA_at (by omega)])) ?_
    refine ql (.slice (some ⟨gv, 0, none⟩) 1 1) (by kernel_rfl) (by kernel_rfl) ?_
    refine kcpy (o := k) (n := ((L.length + 1) - (k))) (c := (c - (k))) (m := 1) (c2 := 1) (ad := ⟨gv, 0, none⟩) (xs := [.int .i32 x]) HS 0 rfl (by kernel_rfl) (by kernel_rfl) (by kernel_rfl) Try.underlying75 (by kernel_rfl) B2 (by simp only [List.length_singleton, Nat.min_def]; split <;> omega) (cells_at (fun j v hv => by rw [Nat.zero_add]; exact HS.cell (i := 1) rfl hv)) (by simp only [List.length_singleton]; omega) (one_ (by kernel_rfl)) hb2 ?_
    intro W10 H_
    replace HS : St W M W10 [blk g B2 21, blk gv [.int .i32 x] 21] := H_
    clear H_
    refine wpList_nil ?_
    refine x_then ?_
    refine wp_seq ?_
    refine wp_region_lit ?_
    refine ql (.slice (some ⟨g, 0, none⟩) (L.length + 1) c) (by kernel_rfl) (by kernel_rfl) ?_
    refine ql (.slice (some ⟨g, 0, none⟩) (L.length + 1) c) (by kernel_rfl) (by kernel_rfl) ?_
    refine wpList_nil ?_
    refine x_then ?_
    refine wp_ret ?_
    refine x_thenR ?_
    refine ret_ (.slice (some ⟨g, 0, none⟩) (L.length + 1) c) (by kernel_rfl) ?_
    replace HS : St W M W10 [blk g B2 21] := St.tail (F := [blk gv [.int .i32 x] 21]) (HS.perm (perm_ [1, 0] (by kernel_rfl) rfl))
    have hil : (insA L k x).length = L.length + 1 := insA_len (by omega)
    replace HS := HS.closeRow (i := 0) rfl (L.length + 1) c (ci .i32 (insA L k x)) (by omega) (by rw [ci_insA, ← ht2, hcl]) (by omega) (by omega)
    rw [hil]
    exact ⟨_, _, rfl, HS⟩

set_option maxRecDepth 100000 in
set_option maxHeartbeats 1000000 in
theorem sdel_ (g c k : Nat) (L : List Int) (sp : List Value) (W : World) (M : Nat → Prop) (HS : St W M W [blk g (ci .i32 L ++ sp) 21]) (hl : L.length ≤ 100000) (hc : L.length + sp.length = c) (hm : c ≤ maxLen) (hk : k < L.length) : Calls Try.prog 66 #[.slice (some ⟨g, 0, none⟩) L.length c, .int .i64 (k : Int), .int .i64 ((k : Int) + 1)] W fun e W' => ∃ A' c', e = .returned (.slice A' (L.take k ++ L.drop (k + 1)).length c') ∧ St W M W' [row A' (L.take k ++ L.drop (k + 1)).length c' (ci .i32 (L.take k ++ L.drop (k + 1))) 21 1] := by
  have hm63 : maxLen = 9223372036854775807 := rfl
  have hcl : (ci .i32 L).length = L.length := ci_len _ _
  have hcc : (ci .i32 L ++ sp).length = c := by rw [List.length_append, hcl]; exact hc
  obtain ⟨n1, hn1⟩ : ∃ z_ : Nat, z_ = L.length - 1 := ⟨_, rfl⟩
  obtain ⟨B1, B2, hb1, hb2, hl1, hl2, ht2⟩ := del_eq (C := ci .i32 L) (sp := sp) (z := .int .i32 0) (K := k) (by omega)
  rw [hcl, ← hn1] at hb2 ht2
  obtain ⟨ad, had, _⟩ := HS.cut_src (i := 0) (c := c) (k := k + 1) (xs := (ci .i32 L).drop (k + 1)) rfl (by omega) (fun j v hv => src_drop hv)
  refine calls_enter [.slice (some ⟨g, 0, none⟩) L.length c, .int .i64 (k : Int), .int .i64 ((k : Int) + 1), undef, undef, undef, undef, undef, undef, undef, undef, undef, undef, undef, undef, undef, undef, undef, undef, undef, undef, undef, undef, undef, undef, undef, undef, undef, undef, undef, undef, undef, undef] Try.func66 rfl (by kernel_rfl) ?_
  refine wp_seq ?_
  refine wp_region_lit ?_
  refine ql (.slice none 0 0) (by kernel_rfl) (by kernel_rfl) ?_
  refine wpList_nil ?_
  refine x_then ?_
  refine wp_seq ?_
  refine wp_region_lit ?_
  refine ql (.slice (some ⟨g, 0, none⟩) L.length c) (by kernel_rfl) (by kernel_rfl) ?_
  refine ql (.int .i64 (k : Int)) (by kernel_rfl) (by kernel_rfl) ?_
  refine ql (.int .i64 ((k : Int) + 1)) (by kernel_rfl) (by kernel_rfl) ?_
  refine ql (.slice (some ⟨g, 0, none⟩) L.length c) (by kernel_rfl) (by kernel_rfl) ?_
  refine ql (.int .i64 (L.length : Int)) (by kernel_rfl) (by kernel_rfl) ?_
  skip
  refine ql (.slice (cutA (some ⟨g, 0, none⟩) ((L.length : Int)).toNat ((k : Int)).toNat 1) (((k : Int) + 1).toNat - ((k : Int)).toNat) (((L.length : Int)).toNat - ((k : Int)).toNat)) (by kernel_rfl) (R_slice3 (k := .i64) (k2 := .i64) (k3 := .i64) (A := (some ⟨g, 0, none⟩)) (n := L.length) (c := c) (i := (k : Int)) (i2 := (k : Int) + 1) (i3 := (L.length : Int)) (by kernel_rfl) (by kernel_rfl) (by kernel_rfl) (by kernel_rfl) Try.underlying75 (by kernel_rfl) (by omega) (by omega) (by omega) (by omega)) ?_
  refine wpList_nil ?_
  refine x_then ?_
  refine wp_seq ?_
  refine wp_seq ?_
  refine wp_region_lit ?_
  refine ql (.int .i64 (k : Int)) (by kernel_rfl) (by kernel_rfl) ?_
  refine ql (.int .i64 ((k : Int) + 1)) (by kernel_rfl) (by kernel_rfl) ?_
  refine ql (.bool false) (by kernel_rfl) (R_beq (b := ((k : Int) == (k : Int) + 1)) (by kernel_rfl) (beq_f (by omega))) ?_
  refine wpList_nil ?_
  refine x_then ?_
  refine wp_cond_false (by kernel_rfl) ?_
  refine wp_skip ?_
  refine x_then ?_
  refine wp_seq ?_
  refine wp_region_lit ?_
  refine ql (.slice (some ⟨g, 0, none⟩) L.length c) (by kernel_rfl) (by kernel_rfl) ?_
  refine ql (.int .i64 (L.length : Int)) (by kernel_rfl) (by kernel_rfl) ?_
  refine ql (.int .i64 (L.length : Int)) (by kernel_rfl) (by kernel_rfl) ?_
  refine wpList_nil ?_
  refine x_then ?_
  refine wp_seq ?_
  refine rg_still HS 6 (by kernel_rfl) (by kernel_rfl) ?_
  intro W1 H_ HK_
  simp only [List.take_succ_cons, List.take_zero, List.drop_succ_cons, List.drop_zero]
  replace HS : St W M W1 [blk g (ci .i32 L ++ sp) 21] := H_
  clear H_
  clear HK_
  refine qs (.slice (some ⟨g, 0, none⟩) L.length c) (by kernel_rfl) (by kernel_rfl) ?_
  refine qs (.int .i64 (k : Int)) (by kernel_rfl) (by kernel_rfl) ?_
  refine qs (.slice (some ⟨g, 0, none⟩) k c) (by kernel_rfl) (R_eq (R_sliceH (z := 1) (e := 21) (k := .i64) (A := (some ⟨g, 0, none⟩)) (n := L.length) (c := c) (i := (k : Int)) (by kernel_rfl) (by kernel_rfl) Try.underlying75 (by kernel_rfl) (by omega) (by omega)) (by rw [show ((k : Int)).toNat = k from by omega])) ?_
  refine qs (.slice (some ⟨g, 0, none⟩) L.length c) (by kernel_rfl) (by kernel_rfl) ?_
  refine qs (.int .i64 ((k : Int) + 1)) (by kernel_rfl) (by kernel_rfl) ?_
  refine qs (.slice (some ad) (L.length - (k + 1)) (c - (k + 1))) (by kernel_rfl) (R_eq (R_sliceL (k := .i64) (A := (some ⟨g, 0, none⟩)) (n := L.length) (c := c) (i := (k : Int) + 1) (by kernel_rfl) (by kernel_rfl) Try.underlying75 (by kernel_rfl) (by omega) (by omega)) (by rw [show ((k : Int) + 1).toNat = k + 1 from by omega, had])) ?_
  refine wpStill_nil ?_
  obtain ⟨ad2, had2, hsrc⟩ := HS.cut_src (i := 0) (c := c) (k := k + 1) (xs := (ci .i32 L).drop (k + 1)) rfl (by omega) (fun j v hv => src_drop hv)
  obtain rfl : ad2 = ad := Option.some.inj (had2.symm.trans had)
  refine kai (n := k) (c := c) (m := (L.length - (k + 1))) (c2 := (c - (k + 1))) (ad := ad2) (xs := (ci .i32 L).drop (k + 1)) HS 0 rfl (by kernel_rfl) (by kernel_rfl) (by kernel_rfl) Try.underlying75 (by kernel_rfl) B1 n1 (by omega) (by rw [List.length_drop, hcl]) hsrc (by omega) (by omega) (fun v hv => ci_one v (List.mem_of_mem_drop hv)) hb1 ?_
  intro W2 H_
  replace HS : St W M W2 [blk g B1 21] := H_
  clear H_
  refine ql (.slice (some ⟨g, 0, none⟩) n1 c) (by kernel_rfl) (by kernel_rfl) ?_
  refine wpList_nil ?_
  refine x_then ?_
  refine wp_seq ?_
  refine wp_region_lit ?_
  refine ql (.slice (some ⟨g, 0, none⟩) n1 c) (by kernel_rfl) (by kernel_rfl) ?_
  refine ql (.slice (some ⟨g, 0, none⟩) n1 c) (by kernel_rfl) (by kernel_rfl) ?_
  refine ql (.int .i64 (n1 : Int)) (by kernel_rfl) (by kernel_rfl) ?_
  refine ql (.int .i64 (L.length : Int)) (by kernel_rfl) (by kernel_rfl) ?_
  refine ql (.slice (some ⟨g, n1, none⟩) 1 (c - n1)) (by kernel_rfl) (R_eq (R_sliceLH (k := .i64) (k2 := .i64) (A := (some ⟨g, 0, none⟩)) (n := n1) (c := c) (i := (n1 : Int)) (i2 := (L.length : Int)) (by kernel_rfl) (by kernel_rfl) (by kernel_rfl) Try.underlying75 (by kernel_rfl) (by omega) (by omega) (by omega)) (by rw [show ((n1 : Int)).toNat = n1 from by omega, cutA_at (by omega), show ((L.length : Int)).toNat - n1 = 1 from by omega])) ?_
  refine kclr (g := g) (o := n1) (n := 1) (c := (c - n1)) (z := .int .i32 0) HS 0 rfl (by kernel_rfl) (by kernel_rfl) Try.underlying75 (by kernel_rfl) rfl rfl B2 (by decide) (by omega) hb2 ?_
  intro W3 H_
  replace HS : St W M W3 [blk g B2 21] := H_
  clear H_
  refine wpList_nil ?_
  refine x_then ?_
  refine wp_seq ?_
  refine wp_region_lit ?_
  refine ql (.slice (some ⟨g, 0, none⟩) n1 c) (by kernel_rfl) (by kernel_rfl) ?_
  refine ql (.slice (some ⟨g, 0, none⟩) n1 c) (by kernel_rfl) (by kernel_rfl) ?_
  refine wpList_nil ?_
  refine x_then ?_
  refine wp_ret ?_
  refine ret_ (.slice (some ⟨g, 0, none⟩) n1 c) (by kernel_rfl) ?_
  have hil : (L.take k ++ L.drop (k + 1)).length = n1 := by simp; omega
  replace HS := HS.closeRow (i := 0) rfl n1 c (ci .i32 (L.take k ++ L.drop (k + 1))) (by omega) (by rw [ci_cut, ← ht2]) (by omega) hm
  rw [hil]
  exact ⟨_, _, rfl, HS⟩


end Go.Proofs.Ytdiodmdohkjafaa.GSparsePlays
