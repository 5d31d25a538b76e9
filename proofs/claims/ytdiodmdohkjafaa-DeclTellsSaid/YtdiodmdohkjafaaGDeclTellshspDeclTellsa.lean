/- Written for this claim by gp.py, a program of this session's, over the kit's print. Lean checks it. -/
import Derived.Test.YtdiodmdohkjafaaGDeclTellsx0
import Derived.Test.YtdiodmdohkjafaaGDeclTellshx
import Derived.WalkKit
import Derived.StillTailTactics
import Derived.Deep.LoopGhost
import Derived.KernelRfl
import Derived.Deep.OwnRows
import Derived.Laws.OwnMore
import Derived.Laws.MakeOwn
import Derived.Maps.AppendAt
import Derived.OrdersHeld
import Derived.Maps.OwnSet
import Derived.Maps.Keyed
import Derived.Maps.Views
import Derived.Laws.CopyRow
import Derived.Laws.IdiomCopy
import Derived.Laws.Entries
import Derived.Lib.TrailingZeros
import Derived.Laws.Bits64b
import Derived.Laws.BitsLemmas
import Derived.RangeFuncWrites
import Derived.RangeFuncLeaves
import Derived.RangeFuncCalls
import Derived.Shelf.Abstract
import Derived.Lib.Overlaps
import Derived.Lib.AppendZerosOnto
import Derived.Lib.SliceRun
import Derived.ArgAppend
import Derived.Conc.EntryLaws
import Derived.Laws.StructEq
import Derived.ChangeKeysEq
namespace Go.Proofs.Ytdiodmdohkjafaa.GDeclTells
open Go.RowKit Go.Proofs.YtdiodmdohkjafaaW.PrintWords Go.Proofs.YtdiodmdohkjafaaW.PrintLast Go.Proofs.YtdiodmdohkjafaaW.PrintMore
attribute [local go_sem] max2_int min2_int max_two min_two max_three min_three max_four min_four   -- for this text's walks alone
set_option linter.unusedVariables false
set_option linter.unusedSimpArgs false

--import Derived.WalkKit
--import Derived.StillTailTactics
--import Derived.Deep.LoopGhost
--import Derived.KernelRfl
--import Derived.Deep.OwnRows
--import Derived.Laws.OwnMore
--import Derived.Laws.MakeOwn
--import Derived.Maps.AppendAt
--import Derived.OrdersHeld
--import Derived.Maps.OwnSet
--import Derived.Maps.Keyed
--import Derived.Maps.Views
--import Derived.Laws.CopyRow
--import Derived.Laws.IdiomCopy
--import Derived.Laws.Entries
--import Derived.Lib.TrailingZeros
--import Derived.Laws.Bits64b
--import Derived.Laws.BitsLemmas
--import Derived.RangeFuncWrites
--import Derived.RangeFuncLeaves
--import Derived.RangeFuncCalls
--import Derived.Shelf.Abstract
--import Derived.Lib.Overlaps
--import Derived.Lib.AppendZerosOnto
--import Derived.Lib.SliceRun
--import Derived.ArgAppend
--import Derived.Conc.EntryLaws
--import Derived.Laws.StructEq
--import Derived.ChangeKeysEq
/-! ### worlds: what is kept -/
structure Kpt (M : Nat → Prop) (w w' : World) : Prop where
  os : w'.os = w.os
  tape : w'.tape = w.tape
  output : w'.output = w.output
  size : w.heap.size ≤ w'.heap.size
  block : ∀ k, k < w.heap.size → ¬ M k → w'.heap[k]? = w.heap[k]?
theorem Kpt.refl (M : Nat → Prop) (w : World) : Kpt M w w := ⟨rfl, rfl, rfl, Nat.le_refl _, fun _ _ _ => rfl⟩
theorem Kpt.trans {M N : Nat → Prop} {a b c : World} (h : Kpt M a b) (k : Kpt N b c) (hn : ∀ i, N i → M i ∨ a.heap.size ≤ i) : Kpt M a c :=
  ⟨k.os.trans h.os, k.tape.trans h.tape, k.output.trans h.output, Nat.le_trans h.size k.size, fun i hi hm =>
    (k.block i (Nat.lt_of_lt_of_le hi h.size) (fun hN => (hn i hN).elim hm (fun h2 => by omega))).trans (h.block i hi hm)⟩
theorem Kpt.of_below {M : Nat → Prop} {w w' : World} (h : Below w.heap.size w w') : Kpt M w w' := ⟨h.os, h.tape, h.output, h.size, fun k hk _ => h.block k hk⟩
theorem Kpt.below {M : Nat → Prop} {w w' : World} (h : Kpt M w w') (hM : ∀ k, ¬ M k) : Below w.heap.size w w' := ⟨h.os, h.tape, h.output, h.size, fun k hk => h.block k hk (hM k)⟩
theorem Kpt.of_grown {M : Nat → Prop} {w w' : World} {r : Option Nat} (h : w.grownBy w' r) (hM : ∀ k, r = some k → M k) : Kpt M w w' := ⟨h.os, h.tape, h.output, h.size, fun k hk hm => h.block k hk (fun e => hm (hM k e.symm))⟩
theorem Kpt.alloc {M : Nat → Prop} (w : World) (o : Obj) : Kpt M w (w.alloc o) := ⟨rfl, rfl, rfl, by simp, fun k hk _ => heap_alloc_old w o hk⟩
theorem Kpt.drew {M : Nat → Prop} (w : World) (n : Nat) : Kpt M w { w with drawn := n } := ⟨rfl, rfl, rfl, Nat.le_refl _, fun _ _ _ => rfl⟩
theorem Kpt.setRow {M : Nat → Prop} (w : World) (g : Nat) (cs : Array Value) (hM : M g) : Kpt M w (w.setRow g cs) :=
  ⟨rfl, rfl, rfl, by simp [World.setRow], fun k _ hm => setRow_other w g k _ (fun e => hm (e ▸ hM))⟩
/-! ### what is owned -/
structure Ent where
  own : Nat → Prop
  P : World → Prop
  loc : ∀ W W' : World, (∀ k, own k → W'.heap[k]? = W.heap[k]?) → P W → P W'
/-- A block whose cells are all known. -/
def blk (g : Nat) (cs : List Value) (t : Nat) : Ent := ⟨fun k => k = g, fun W => W.heap[g]? = some (.cells cs.toArray t (0, 0)), fun _ _ h p => (h g rfl).trans p⟩
/-- A slice's block from its first cell on; there may be room behind. -/
def row (A : Option Addr) (n c : Nat) (cs : List Value) (t z : Nat) : Ent :=
  ⟨fun k => (Value.slice A n c).ownBlock = some k, fun W => W.ownsRow 0 t z (.slice A n c) n cs, fun W W' h p => by
    refine ⟨p.1, ?_⟩
    rcases p.2 with hn | ⟨g, cap, cur, e, hb, hg, rest⟩
    · exact .inl hn
    · refine .inr ⟨g, cap, cur, e, hb, ?_, rest⟩
      rw [h g (by rw [e]; rfl)]
      exact hg⟩
def owns (L : List Ent) : Nat → Prop := fun k => ∃ e ∈ L, e.own k
structure St (W0 : World) (M : Nat → Prop) (W : World) (L : List Ent) : Prop where
  kept : Kpt M W0 W
  has : ∀ e ∈ L, e.P W ∧ ∀ k, e.own k → k < W.heap.size ∧ (M k ∨ W0.heap.size ≤ k)
  ne : L.Pairwise fun e f => ∀ k, e.own k → ¬ f.own k
namespace St
variable {W0 W W' : World} {M : Nat → Prop} {L : List Ent} {e e' : Ent}
theorem start (W : World) (M : Nat → Prop) : St W M W [] := ⟨.refl _ _, fun _ h => (nomatch h), .nil⟩
theorem get (h : St W0 M W L) {i : Nat} (hi : L[i]? = some e) : e.P W := (h.has e (List.mem_of_getElem? hi)).1
theorem lt (h : St W0 M W L) {i : Nat} (hi : L[i]? = some e) {k : Nat} (hk : e.own k) : k < W.heap.size := ((h.has e (List.mem_of_getElem? hi)).2 k hk).1
/-- The world goes on, nothing of it changes. -/
theorem step (h : St W0 M W L) (hk : Kpt (fun _ => False) W W') : St W0 M W' L :=
  ⟨h.kept.trans hk (fun _ f => f.elim), fun e he => ⟨e.loc W W' (fun k ho => hk.block k ((h.has e he).2 k ho).1 (fun f => f)) (h.has e he).1, fun k ho => ⟨Nat.lt_of_lt_of_le ((h.has e he).2 k ho).1 hk.size, ((h.has e he).2 k ho).2⟩⟩, h.ne⟩
theorem below (h : St W0 M W L) (hb : Below W.heap.size W W') : St W0 M W' L := h.step (.of_below hb)
theorem drew (h : St W0 M W L) (n : Nat) : St W0 M { W with drawn := n } L := h.step (.drew _ _)
/-- Something new. -/
theorem new (h : St W0 M W L) (hk : Kpt (fun _ => False) W W') (hP : e'.P W') (ho : ∀ k, e'.own k → W.heap.size ≤ k ∧ k < W'.heap.size) : St W0 M W' (e' :: L) := by
  have h2 := h.step hk
  refine ⟨h2.kept, fun e he => ?_, List.pairwise_cons.2 ⟨fun f hf k h1 h3 => ?_, h2.ne⟩⟩
  · rcases List.mem_cons.1 he with rfl | he
    · exact ⟨hP, fun k hk' => ⟨(ho k hk').2, .inr (Nat.le_trans h.kept.size (ho k hk').1)⟩⟩
    · exact h2.has e he
  · have := ((h.has f hf).2 k h3).1
    have := (ho k h1).1
    omega
theorem newBlk (h : St W0 M W L) (cs : List Value) (t : Nat) : St W0 M (W.alloc (.cells cs.toArray t)) (blk W.heap.size cs t :: L) :=
  h.new (.alloc _ _) (heap_alloc_new _ _) (fun k hk => by subst hk; exact ⟨Nat.le_refl _, by simp⟩)
/-- One entry changes. -/
theorem upd (h : St W0 M W L) {i : Nat} (hi : L[i]? = some e) (hk : Kpt e.own W W') (hP : e'.P W') (ho : ∀ k, e'.own k → (e.own k ∨ W.heap.size ≤ k) ∧ k < W'.heap.size) : St W0 M W' (L.set i e') := by
  have hm := List.mem_of_getElem? hi
  have hlt := (List.getElem?_eq_some_iff.1 hi).1
  have hel := (List.getElem?_eq_some_iff.1 hi).2
  have hne := List.pairwise_iff_getElem.1 h.ne
  refine ⟨h.kept.trans hk (fun k hk' => ((h.has e hm).2 k hk').2), fun f hf => ?_, List.pairwise_iff_getElem.2 fun a b ha hb hab k h1 h2 => ?_⟩
  · obtain ⟨j, hj, rfl⟩ := List.getElem_of_mem hf
    rw [List.length_set] at hj
    rcases Nat.decEq j i with hji | rfl
    · rw [List.getElem_set_ne (Ne.symm hji)]
      have hf' := h.has L[j] (List.getElem_mem hj)
      refine ⟨L[j].loc W W' (fun k ho' => hk.block k (hf'.2 k ho').1 (fun he => ?_)) hf'.1, fun k ho' => ⟨Nat.lt_of_lt_of_le (hf'.2 k ho').1 hk.size, (hf'.2 k ho').2⟩⟩
      rcases Nat.lt_or_gt_of_ne hji with hlt' | hgt
      · exact hne j i hj hlt hlt' k ho' (hel ▸ he)
      · exact hne i j hlt hj hgt k (hel ▸ he) ho'
    · rw [List.getElem_set_self]
      exact ⟨hP, fun k hk' => ⟨(ho k hk').2, (ho k hk').1.elim (fun h1 => ((h.has e hm).2 k h1).2) (fun h1 => .inr (Nat.le_trans h.kept.size h1))⟩⟩
  · rw [List.length_set] at ha hb
    have key : ∀ (j : Nat) (hj : j < L.length), j ≠ i → L[j].own k → ¬ e'.own k := fun j hj hji h3 h4 => by
      rcases (ho k h4).1 with h5 | h5
      · rcases Nat.lt_or_gt_of_ne hji with hlt' | hgt
        · exact hne j i hj hlt hlt' k h3 (hel ▸ h5)
        · exact hne i j hlt hj hgt k (hel ▸ h5) h3
      · have := ((h.has _ (List.getElem_mem hj)).2 k h3).1
        omega
    rcases Nat.decEq a i with hai | rfl
    · rw [List.getElem_set_ne (Ne.symm hai)] at h1
      rcases Nat.decEq b i with hbi | rfl
      · rw [List.getElem_set_ne (Ne.symm hbi)] at h2
        exact hne a b ha hb hab k h1 h2
      · rw [List.getElem_set_self] at h2
        exact key a (by simpa using ha) hai h1 h2
    · rw [List.getElem_set_self] at h1
      rw [List.getElem_set_ne (by omega)] at h2
      exact key b (by simpa using hb) (by omega) h2 h1
/-- A part of what is owned, in an order of its own; and the rest. -/
theorem perm (h : St W0 M W L) {L' : List Ent} (hp : L.Perm L') : St W0 M W L' :=
  ⟨h.kept, fun e he => h.has e (hp.mem_iff.2 he), (hp.pairwise_iff (fun {x y} hxy k h1 h2 => hxy k h2 h1)).1 h.ne⟩
theorem drop1 (h : St W0 M W (e :: L)) : St W0 M W L := ⟨h.kept, fun f hf => h.has f (List.mem_cons_of_mem _ hf), (List.pairwise_cons.1 h.ne).2⟩
theorem tail {F : List Ent} (h : St W0 M W (F ++ L)) : St W0 M W L := ⟨h.kept, fun f hf => h.has f (List.mem_append_right _ hf), (List.pairwise_append.1 h.ne).2.1⟩
theorem focus {F : List Ent} (h : St W0 M W (F ++ L)) : St W (owns F) W F :=
  ⟨.refl _ _, fun e he => ⟨(h.has e (List.mem_append_left _ he)).1, fun k hk => ⟨((h.has e (List.mem_append_left _ he)).2 k hk).1, .inl ⟨e, he, hk⟩⟩⟩, (List.pairwise_append.1 h.ne).1⟩
/-- Behind a call: what it had is as it says, the rest as it was. -/
theorem join {F G : List Ent} (h : St W0 M W (F ++ L)) (hc : St W (owns F) W' G) : St W0 M W' (G ++ L) := by
  have hF : ∀ k, owns F k → M k ∨ W0.heap.size ≤ k := fun k ⟨e, he, hk⟩ => ((h.has e (List.mem_append_left _ he)).2 k hk).2
  have hL : ∀ f ∈ L, ∀ k, f.own k → k < W.heap.size ∧ ¬ owns F k := fun f hf k hk =>
    ⟨((h.has f (List.mem_append_right _ hf)).2 k hk).1, fun ⟨e, he, hk'⟩ => (List.pairwise_append.1 h.ne).2.2 e he f hf k hk' hk⟩
  refine ⟨h.kept.trans hc.kept hF, fun f hf => ?_, List.pairwise_append.2 ⟨hc.ne, (List.pairwise_append.1 h.ne).2.1, fun f hf g hg k h1 h2 => ?_⟩⟩
  · rcases List.mem_append.1 hf with hf | hf
    · exact ⟨(hc.has f hf).1, fun k hk => ⟨((hc.has f hf).2 k hk).1, (((hc.has f hf).2 k hk).2).elim (hF k) (fun h3 => .inr (Nat.le_trans h.kept.size h3))⟩⟩
    · have h3 := h.has f (List.mem_append_right _ hf)
      exact ⟨f.loc W W' (fun k hk => hc.kept.block k (hL f hf k hk).1 (hL f hf k hk).2) h3.1, fun k hk => ⟨Nat.lt_of_lt_of_le (h3.2 k hk).1 hc.kept.size, (h3.2 k hk).2⟩⟩
  · have h3 := hL g hg k h2
    rcases ((hc.has f hf).2 k h1).2 with h4 | h4
    · exact h3.2 h4
    · omega
theorem cast_ {L2 : List Ent} (h : St W0 M W L) (e : L = L2) : St W0 M W L2 := e ▸ h
/-- Something is told otherwise. -/
theorem turn (h : St W0 M W L) {i : Nat} (hi : L[i]? = some e) (hP : e.P W → e'.P W) (ho : ∀ k, e'.own k → e.own k) : St W0 M W (L.set i e') :=
  h.upd hi (.refl _ _) (hP (h.get hi)) (fun k hk => ⟨.inl (ho k hk), h.lt hi (ho k hk)⟩)
theorem blkE (h : St W0 M W L) {i g t : Nat} {cs : List Value} (hi : L[i]? = some (blk g cs t)) : W.heap[g]? = some (.cells cs.toArray t (0, 0)) := h.get hi
/-- A cell of a block. -/
theorem cell (h : St W0 M W L) {i g t : Nat} {cs : List Value} (hi : L[i]? = some (blk g cs t)) {j : Nat} {v : Value} (hv : cs[j]? = some v) : W.cell? ⟨g, j, none⟩ = some v := by
  rw [cell_of_row W g j cs.toArray t (0, 0) (h.blkE hi)]
  simpa using hv
theorem rowE (h : St W0 M W L) {i n c t z : Nat} {A : Option Addr} {cs : List Value} (hi : L[i]? = some (row A n c cs t z)) : W.ownsRow 0 t z (.slice A n c) n cs := h.get hi
/-- A cell of a row. -/
theorem rcell (h : St W0 M W L) {i g n c t z : Nat} {cs : List Value} (hi : L[i]? = some (row (some ⟨g, 0, none⟩) n c cs t z)) {j : Nat} {v : Value} (hv : cs[j]? = some v) : W.cell? ⟨g, j, none⟩ = some v := by
  have := (h.rowE hi).cells (g := g) rfl j v hv
  rwa [show (⟨g, 0, none⟩ : Addr).add j = ⟨g, j, none⟩ by unfold Addr.add; split <;> simp_all] at this
theorem rsome (h : St W0 M W L) {i n c t z : Nat} {A : Option Addr} {cs : List Value} (hi : L[i]? = some (row A n c cs t z)) (hn : 0 < n) : ∃ g, A = some ⟨g, 0, none⟩ := by
  rcases (h.rowE hi).2 with ⟨_, h2⟩ | ⟨g, cap, cur, e, _⟩
  · omega
  · exact ⟨g, by cases e; rfl⟩
theorem rlen (h : St W0 M W L) {i n c t z : Nat} {A : Option Addr} {cs : List Value} (hi : L[i]? = some (row A n c cs t z)) : cs.length = n * z := (h.rowE hi).1
theorem rcap (h : St W0 M W L) {i n c t z : Nat} {A : Option Addr} {cs : List Value} (hi : L[i]? = some (row A n c cs t z)) : n ≤ c ∧ c ≤ maxLen := by
  rcases (h.rowE hi).2 with ⟨e, h2⟩ | ⟨g, cap, cur, e, _, _, h1, h2, _⟩
  · have : c = 0 := (by cases e; rfl)
    exact ⟨by omega, by omega⟩
  · have : c = cap := (by cases e; rfl)
    omega
end St
/-! ### frames -/
def dfs : Option Nat → List Deferred
  | none => []
  | some D => [{ target := .collected D, args := #[] }]
def FrG (D : Option Nat) (l : List Value) : Act := ⟨l.toArray, dfs D⟩
abbrev Fr (l : List Value) : Act := FrG none l
theorem Fr_put {D : Option Nat} (l : List Value) (d : Nat) (v : Value) : (FrG D l).put (some d) v = FrG D (l.set d v) := by
  simp [FrG, Act.put]
section
variable {P : Program} {ops : Array Oper} {Q : Exit → Act → World → Prop} {R : Act → Prop} {rest : List Oper} {a : Act} {D : Option Nat} {l : List Value} {W W' W0 : World} {M : Nat → Prop} {L : List Ent} {v : Value} {op : Op} {d : Nat} {ty : TypeId} {ps : String} {af : Array Edge} {gd : Option (Nat × Bool)} {dst : Option Nat}
/-- An operation that gives a value. -/
theorem qw (v : Value) (hw : Region.wanted ⟨some d, op, ty, ps, af, gd⟩ (yielded ops (FrG D l).tmps) = true) (hr : (execOp (FrG D l).eval ⟨some d, op, ty, ps, af, gd⟩).run P W = .ok (.value v) W')
    (h : wpList P ops Q rest (FrG D (l.set d v)) W') : wpList P ops Q (⟨some d, op, ty, ps, af, gd⟩ :: rest) (FrG D l) W := by
  refine wpList_step fun K hK => ?_
  rw [if_pos hw]; unfold Oper.wp; rw [hr]
  exact hK _ _ ((Fr_put l d v) ▸ h)
theorem ql (v : Value) (hw : Region.wanted ⟨some d, op, ty, ps, af, gd⟩ (yielded ops (FrG D l).tmps) = true) (hr : (execOp (FrG D l).eval ⟨some d, op, ty, ps, af, gd⟩).run P W = .ok (.value v) W)
    (h : wpList P ops Q rest (FrG D (l.set d v)) W) : wpList P ops Q (⟨some d, op, ty, ps, af, gd⟩ :: rest) (FrG D l) W := qw v hw hr h
theorem qs (v : Value) (hw : Region.wanted ⟨some d, op, ty, ps, af, gd⟩ (yielded ops (FrG D l).tmps) = true) (hr : (execOp (FrG D l).eval ⟨some d, op, ty, ps, af, gd⟩).run P W = .ok (.value v) W)
    (h : wpStill P ops W R rest (FrG D (l.set d v))) : wpStill P ops W R (⟨some d, op, ty, ps, af, gd⟩ :: rest) (FrG D l) := by
  refine wpStill_step fun K hK => ?_
  rw [if_pos hw]; unfold Oper.still; rw [hr]
  exact ⟨rfl, hK _ ((Fr_put l d v) ▸ h)⟩
/-- An operation that its guard leaves out. -/
theorem qln (hw : Region.wanted ⟨some d, op, ty, ps, af, gd⟩ (yielded ops (FrG D l).tmps) = false) (h : wpList P ops Q rest (FrG D (l.set d undef)) W) : wpList P ops Q (⟨some d, op, ty, ps, af, gd⟩ :: rest) (FrG D l) W := by
  refine wpList_step fun K hK => ?_
  rw [if_neg (by rw [hw]; decide)]
  exact hK _ _ ((Fr_put l d undef) ▸ h)
theorem qsn (hw : Region.wanted ⟨some d, op, ty, ps, af, gd⟩ (yielded ops (FrG D l).tmps) = false) (h : wpStill P ops W R rest (FrG D (l.set d undef))) : wpStill P ops W R (⟨some d, op, ty, ps, af, gd⟩ :: rest) (FrG D l) := by
  refine wpStill_step fun K hK => ?_
  rw [if_neg (by rw [hw]; decide)]
  exact hK _ ((Fr_put l d undef) ▸ h)
/-- An operation without a value. -/
theorem qk (hw : Region.wanted ⟨none, op, ty, ps, af, gd⟩ (yielded ops (FrG D l).tmps) = true) (hr : (execOp (FrG D l).eval ⟨none, op, ty, ps, af, gd⟩).run P W = .ok .skip W')
    (h : wpList P ops Q rest (FrG D l) W') : wpList P ops Q (⟨none, op, ty, ps, af, gd⟩ :: rest) (FrG D l) W := by
  refine wpList_step fun K hK => ?_
  rw [if_pos hw]; unfold Oper.wp; rw [hr]
  exact hK _ _ h
/-- A call of a function. -/
theorem qc {f : FuncId} {args : Array Value} (hw : Region.wanted ⟨some d, op, ty, ps, af, gd⟩ (yielded ops (FrG D l).tmps) = true) (hr : (execOp (FrG D l).eval ⟨some d, op, ty, ps, af, gd⟩).run P W = .ok (.enter f args) W)
    (h : Calls P f args W fun e w' => ∃ v, e = .returned v ∧ wpList P ops Q rest (FrG D (l.set d v)) w') : wpList P ops Q (⟨some d, op, ty, ps, af, gd⟩ :: rest) (FrG D l) W := by
  refine wpList_step fun K hK => ?_
  rw [if_pos hw]; unfold Oper.wp; rw [hr]
  refine h.mono ?_
  rintro e w' ⟨v, rfl, hv⟩
  exact hK _ _ ((Fr_put l d v) ▸ hv)
theorem R_call {f : FuncId} {fn : Func} {as_ : Array Operand} {ts : Array TypeId} (args : Array Value) (hf : P.funcs[f]? = some fn) (hn : (fn.name == "runtime.NumGoroutine") = false) (hb : fn.body.isSome = true) (ha : as_.map a.eval = args) :
    (execOp a.eval ⟨dst, .call { callee := .value (.func f), args := as_, argTypes := ts }, ty, ps, af, gd⟩).run P W = .ok (.enter f args) W := by
  have hc : ¬ fn.body = none := by intro h; rw [h] at hb; cases hb
  have hm : ¬ fn.name = "runtime.NumGoroutine" := by simpa using hn
  have h0 : (program).run P W = .ok P W := rfl
  simp [execOp, resolve, Deferred.ofValue, invoke, Act.eval, ha, callFunc, h0, hf, hm, hc]
theorem R_bool {x : World} {p : Prop} [Decidable p] {r : Result Next} (h : r = .ok (.value (.bool (decide p))) x) (hp : p) : r = .ok (.value (.bool true)) x := by rw [h, decide_eq_true hp]
theorem R_nbool {x : World} {p : Prop} [Decidable p] {r : Result Next} (h : r = .ok (.value (.bool (decide p))) x) (hp : ¬ p) : r = .ok (.value (.bool false)) x := by rw [h, decide_eq_false hp]
theorem R_beq {x : World} {b c : Bool} {r : Result Next} (h : r = .ok (.value (.bool b)) x) (hb : b = c) : r = .ok (.value (.bool c)) x := by rw [h, hb]
theorem R_int {x : World} {k : IntKind} {m n : Int} {r : Result Next} (h : r = .ok (.value (.int k m)) x) (e : m = n) : r = .ok (.value (.int k n)) x := by rw [h, e]
theorem R_eq {x : World} {u v : Value} {r : Result Next} (h : r = .ok (.value u) x) (e : u = v) : r = .ok (.value v) x := by rw [h, e]
theorem w64 {n : Int} (h : -9223372036854775808 ≤ n ∧ n ≤ 9223372036854775807) : IntKind.i64.wrap n = n := by rw [IntKind.wrap_i64]; omega
/-! reading -/
def aggB (P : Program) (t : TypeId) : Bool := match P.underlying t with | some (.struct _) => true | some (.array _ _) => true | some _ => false | none => true
def someB (P : Program) (t : TypeId) : Bool := (P.underlying t).isSome
theorem run_isAgg {t : TypeId} {b : Bool} (h : aggB P t = b) (hs : someB P t = true) : (isAgg t).run P W = .ok b W := by
  unfold aggB at h; unfold someB at hs
  cases hu : P.underlying t with
  | none => simp [hu] at hs
  | some u => rw [hu] at h; subst h; cases u <;> simp [isAgg, run_underlying hu]
theorem run_sizeOf {t n : Nat} (h : (P.info? t).map (·.size) = some n) : (sizeOf t).run P W = .ok n W := by
  cases hi : P.info? t with
  | none => rw [hi] at h; cases h
  | some i => rw [hi] at h; simp only [Option.map_some, Option.some.injEq] at h; simp [sizeOf, typeInfo, hi, h]
theorem R_load {t : TypeId} {x : Operand} {p : Addr} {v : Value} (hx : a.eval x = .pointer (some p)) (hu : aggB P t = false) (hs : someB P t = true) (hc : W.cell? p = some v) :
    (execOp a.eval ⟨dst, .load t x, ty, ps, af, gd⟩).run P W = .ok (.value v) W := by
  simp [execOp, Instr.loadAt, hx, Instr.sureAddr, loadVar, run_isAgg hu hs, load, Sem.run, hc]
theorem R_loadN {t : TypeId} {x : Operand} {p : Addr} (cs : List Value) (hx : a.eval x = .pointer (some p)) (hu : aggB P t = true) (hs : someB P t = true) (hn : (P.info? t).map (·.size) = some cs.length) (hc : ∀ j v, cs[j]? = some v → W.cell? (p.add j) = some v) :
    (execOp a.eval ⟨dst, .load t x, ty, ps, af, gd⟩).run P W = .ok (.value (.agg cs.toArray)) W := by
  simp [execOp, Instr.loadAt, hx, Instr.sureAddr, loadVar, run_isAgg hu hs, run_sizeOf hn, run_loadCells_list W p cs hc]
theorem two_at {g o : Nat} {u v : Value} (h0 : W.cell? ⟨g, o, none⟩ = some u) (h1 : W.cell? ⟨g, o + 1, none⟩ = some v) : ∀ j x, [u, v][j]? = some x → W.cell? ((⟨g, o, none⟩ : Addr).add j) = some x := by
  intro j x hx; rw [Addr.add_lit]
  match j, hx with
  | 0, hx => cases hx; exact h0
  | 1, hx => cases hx; exact h1
  | n + 2, hx => simp at hx
theorem R_index {t : TypeId} {x y : Operand} {g n c z e : Nat} {k : IntKind} {i : Int} (hx : a.eval x = .slice (some ⟨g, 0, none⟩) n c) (hy : a.eval y = .int k i) (ht : P.underlying t = some (.slice e)) (hz : (P.info? e).map (·.size) = some z) (h0 : 0 ≤ i) (h1 : i < n) :
    (execOp a.eval ⟨dst, .indexAddr t x y, ty, ps, af, gd⟩).run P W = .ok (.value (.pointer (some ⟨g, i.toNat * z, none⟩))) W := by
  simp [execOp, Instr.indexAt, hx, hy, asIntOf, run_underlying ht, run_sizeOf hz, h0, h1, Addr.add_lit]
theorem R_index1 {t : TypeId} {x y : Operand} {g n c e : Nat} {k : IntKind} {i : Int} (hx : a.eval x = .slice (some ⟨g, 0, none⟩) n c) (hy : a.eval y = .int k i) (ht : P.underlying t = some (.slice e)) (hz : (P.info? e).map (·.size) = some 1) (h0 : 0 ≤ i) (h1 : i < n) :
    (execOp a.eval ⟨dst, .indexAddr t x y, ty, ps, af, gd⟩).run P W = .ok (.value (.pointer (some ⟨g, i.toNat, none⟩))) W := by
  rw [R_index hx hy ht hz h0 h1, Nat.mul_one]
/-- An element of a slice that begins anywhere. -/
theorem R_indexA {t : TypeId} {x y : Operand} {p : Addr} {n c z e : Nat} {k : IntKind} {i : Int} (hx : a.eval x = .slice (some p) n c) (hy : a.eval y = .int k i) (ht : P.underlying t = some (.slice e)) (hz : (P.info? e).map (·.size) = some z) (h0 : 0 ≤ i) (h1 : i < n) :
    (execOp a.eval ⟨dst, .indexAddr t x y, ty, ps, af, gd⟩).run P W = .ok (.value (.pointer (some (p.add (i.toNat * z))))) W := by
  simp [execOp, Instr.indexAt, hx, hy, asIntOf, run_underlying ht, run_sizeOf hz, h0, h1]
theorem run_sliceBound {k : IntKind} {i : Int} {y : Nat} {code : BoundsCode} (h0 : 0 ≤ i) (h1 : i ≤ y) : (Instr.sliceBound (.int k i) y code).run P W = .ok i.toNat W := by
  simp [Instr.sliceBound, asIntOf, h0, h1]
/-- Where a slice's rest begins. -/
def cutA (A : Option Addr) (c m z : Nat) : Option Addr := if c = m then A else A.map (·.add (m * z))
/-- A slice's head: s[:h]. -/
theorem R_sliceH {t : TypeId} {x y : Operand} {A : Option Addr} {n c z e : Nat} {k : IntKind} {i : Int} (hx : a.eval x = .slice A n c) (hy : a.eval y = .int k i) (ht : P.underlying t = some (.slice e)) (hz : (P.info? e).map (·.size) = some z) (h0 : 0 ≤ i) (h1 : i ≤ c) :
    (execOp a.eval ⟨dst, .slice t x none (some y) none, ty, ps, af, gd⟩).run P W = .ok (.value (.slice A i.toNat c)) W := by
  by_cases hc : c = 0
  · simp [execOp, Instr.sliceAt, Instr.slice, Instr.sliceBounds, run_sliceBound h0 h1, hx, hy, run_underlying ht, run_sizeOf hz, hc]
    simp [hc] at h1
    cases (show i = 0 by omega)
    simp [Instr.sliceBound, asIntOf]
  · cases A <;> simp [execOp, Instr.sliceAt, Instr.slice, Instr.sliceBounds, run_sliceBound h0 h1, hx, hy, run_underlying ht, run_sizeOf hz, hc, Addr.add_zero']
/-- A slice's rest: s[l:]. -/
theorem R_sliceL {t : TypeId} {x y : Operand} {A : Option Addr} {n c z e : Nat} {k : IntKind} {i : Int} (hx : a.eval x = .slice A n c) (hy : a.eval y = .int k i) (ht : P.underlying t = some (.slice e)) (hz : (P.info? e).map (·.size) = some z) (h0 : 0 ≤ i) (h1 : i ≤ n) :
    (execOp a.eval ⟨dst, .slice t x (some y) none none, ty, ps, af, gd⟩).run P W = .ok (.value (.slice (cutA A c i.toNat z) (n - i.toNat) (c - i.toNat))) W := by
  simp [execOp, Instr.sliceAt, Instr.slice, Instr.sliceBounds, run_sliceBound h0 h1, hx, hy, run_underlying ht, run_sizeOf hz, cutA]
end
/-! ### what changes the world -/
def splice (cs : List Value) (j : Nat) : List Value → List Value
  | [] => cs
  | v :: vs => splice (cs.set j v) (j + 1) vs
theorem splice_length : ∀ (vs cs : List Value) (j : Nat), (splice cs j vs).length = cs.length
  | [], _, _ => rfl
  | v :: vs, cs, j => by rw [splice, splice_length vs]; simp
theorem splice_eq : ∀ (vs cs : List Value) (j : Nat), j + vs.length ≤ cs.length → splice cs j vs = cs.take j ++ vs ++ cs.drop (j + vs.length)
  | [], cs, j, h => by simp [splice]
  | v :: vs, cs, j, h => by
    simp only [List.length_cons] at h ⊢
    rw [splice, splice_eq vs _ _ (by simp; omega), List.take_set, List.drop_set_of_lt (by omega)]
    have hj : j < cs.length := by omega
    rw [List.take_succ_eq_append_getElem hj]
    have h1 : (List.take j cs ++ [cs[j]]).set j v = List.take j cs ++ [v] := by
      rw [List.set_append_right _ _ (by simp; omega)]
      simp [List.length_take, Nat.min_eq_left (Nat.le_of_lt hj)]
    rw [h1]
    simp [Nat.add_assoc, Nat.add_comm 1]
section
variable {P : Program} {ops : Array Oper} {Q : Exit → Act → World → Prop} {R : Act → Prop} {rest : List Oper} {a : Act} {D : Option Nat} {l : List Value} {W W' W0 : World} {M : Nat → Prop} {L : List Ent} {v : Value} {op : Op} {d : Nat} {ty : TypeId} {ps : String} {af : Array Edge} {gd : Option (Nat × Bool)} {dst : Option Nat}
theorem R_store {t : TypeId} {x y : Operand} {g j tb : Nat} {cs : List Value} {v : Value} (news : List Value) (hg : W.heap[g]? = some (.cells cs.toArray tb (0, 0))) (hx : a.eval x = .pointer (some ⟨g, j, none⟩)) (hy : a.eval y = v) (hv : v.cells = news.toArray)
    (hn : (P.info? t).map (·.size) = some news.length) (h1 : ∀ u ∈ news, u.oneCell' = true) (hfit : j + news.length ≤ cs.length) :
    (execOp a.eval ⟨dst, .store t x y, ty, ps, af, gd⟩).run P W = .ok .skip (W.setRow g (splice cs j news).toArray) := by
  have h2 := run_storeCells_at (P := P) g j tb news 0 cs.toArray W hg (by simpa using hfit) h1
  rw [splice_eq _ _ _ hfit]
  simp only [Nat.add_zero] at h2
  simp [execOp, Instr.storeAt, hx, hy, Instr.sureAddr, storeVar, hv, run_sizeOf hn, h2]
theorem St.setBlk (HS : St W0 M W L) {i g tb : Nat} {cs cs' : List Value} (hi : L[i]? = some (blk g cs tb)) : St W0 M (W.setRow g cs'.toArray) (L.set i (blk g cs' tb)) :=
  HS.upd hi (.setRow _ _ _ rfl) (setRow_heap W g _ _ tb _ (HS.blkE hi)) (fun k hk => ⟨.inl hk, by have := HS.lt hi hk; simpa [World.setRow] using this⟩)
/-- A store into a block. -/
theorem ks {t : TypeId} {x y : Operand} {v : Value} (HS : St W0 M W L) (i : Nat) {g tb : Nat} {cs : List Value} (hi : L[i]? = some (blk g cs tb)) (j : Nat) (news : List Value) (hw : Region.wanted ⟨dst, .store t x y, ty, ps, af, gd⟩ (yielded ops (FrG D l).tmps) = true)
    (hx : (FrG D l).eval x = .pointer (some ⟨g, j, none⟩)) (hy : (FrG D l).eval y = v) (hv : v.cells = news.toArray) (hn : (P.info? t).map (·.size) = some news.length) (h1 : ∀ u ∈ news, u.oneCell' = true) (hfit : j + news.length ≤ cs.length) (hd : dst = none)
    (h : ∀ W', St W0 M W' (L.set i (blk g (splice cs j news) tb)) → wpList P ops Q rest (FrG D l) W') : wpList P ops Q (⟨dst, .store t x y, ty, ps, af, gd⟩ :: rest) (FrG D l) W := by
  subst hd
  exact qk hw (R_store news (HS.blkE hi) hx hy hv hn h1 hfit) (h _ (HS.setBlk hi))
theorem St.setRow_ (HS : St W0 M W L) {i g n c t z : Nat} {cs : List Value} (hi : L[i]? = some (row (some ⟨g, 0, none⟩) n c cs t z)) (j : Nat) (news : List Value) (hfit : j + news.length ≤ cs.length) :
    ∃ cur : List Value, W.heap[g]? = some (.cells cur.toArray t (0, 0)) ∧ cs.length ≤ cur.length ∧ St W0 M (W.setRow g (splice cur j news).toArray) (L.set i (row (some ⟨g, 0, none⟩) n c (splice cs j news) t z)) := by
  have hr := HS.rowE hi
  rcases hr.2 with ⟨e, _⟩ | ⟨g', cap, cur, e, hb, hg, h1, h2, h3, h4⟩
  · cases e
  · cases e
    have hl : cs.length = n * z := hr.1
    have hle : n * z ≤ cur.size := by rw [h3]; exact Nat.mul_le_mul_right _ h1
    have hsz : (splice cur.toList j news).length = cur.size := by rw [splice_length]; simp
    refine ⟨cur.toList, by simpa using hg, by rw [hl]; simpa using hle, HS.upd hi (.setRow _ _ _ rfl) ⟨by rw [splice_length]; exact hl, .inr ⟨g, c, _, rfl, Nat.zero_le _, setRow_heap W g _ _ t _ hg, h1, h2, by simpa [hsz] using h3, ?_⟩⟩ (fun k hk => ⟨.inl hk, by have := HS.lt hi hk; simpa [World.setRow] using this⟩)⟩
    show (splice cur.toList j news).take (n * z) = _
    have hfit2 : j + news.length ≤ cur.toList.length := by simp; omega
    rw [splice_eq _ _ _ hfit2, splice_eq _ _ _ hfit, ← h4, List.take_append, List.take_append]
    have e1 : (List.take j cur.toList).length = j := by simp at hfit2 ⊢; omega
    have e2 : List.take (n * z) (List.take j cur.toList) = List.take j (List.take (n * z) cur.toList) := by rw [List.take_take, List.take_take]; congr 1; omega
    have e3 : List.take (n * z - (List.take j cur.toList).length) news = news := by rw [e1]; exact List.take_of_length_le (by omega)
    rw [e2, e3, List.drop_take]
    congr 2
    simp [List.length_append, e1]
    try omega
/-- A store into a row. -/
theorem kr {t : TypeId} {x y : Operand} {v : Value} (HS : St W0 M W L) (i : Nat) {g n c tb z : Nat} {cs : List Value} (hi : L[i]? = some (row (some ⟨g, 0, none⟩) n c cs tb z)) (j : Nat) (news : List Value) (hw : Region.wanted ⟨dst, .store t x y, ty, ps, af, gd⟩ (yielded ops (FrG D l).tmps) = true)
    (hx : (FrG D l).eval x = .pointer (some ⟨g, j, none⟩)) (hy : (FrG D l).eval y = v) (hv : v.cells = news.toArray) (hn : (P.info? t).map (·.size) = some news.length) (h1 : ∀ u ∈ news, u.oneCell' = true) (hfit : j + news.length ≤ cs.length) (hd : dst = none)
    (h : ∀ W', St W0 M W' (L.set i (row (some ⟨g, 0, none⟩) n c (splice cs j news) tb z)) → wpList P ops Q rest (FrG D l) W') : wpList P ops Q (⟨dst, .store t x y, ty, ps, af, gd⟩ :: rest) (FrG D l) W := by
  subst hd
  obtain ⟨cur, hg, hle, HS2⟩ := HS.setRow_ hi j news hfit
  exact qk hw (R_store news hg hx hy hv hn h1 (by omega)) (h _ HS2)
/-- A new block: alloc, box, a literal's. -/
theorem kb (HS : St W0 M W L) (cs : List Value) (t : Nat) (g0 : Nat → Value) (hw : Region.wanted ⟨some d, op, ty, ps, af, gd⟩ (yielded ops (FrG D l).tmps) = true)
    (hr : (execOp (FrG D l).eval ⟨some d, op, ty, ps, af, gd⟩).run P W = .ok (.value (g0 W.heap.size)) (W.alloc (.cells cs.toArray t)))
    (h : ∀ g W', St W0 M W' (blk g cs t :: L) → wpList P ops Q rest (FrG D (l.set d (g0 g))) W') : wpList P ops Q (⟨some d, op, ty, ps, af, gd⟩ :: rest) (FrG D l) W :=
  qw _ hw hr (h _ _ (HS.newBlk cs t))
theorem row_new (W : World) (n c : Nat) (cs cur : List Value) (t z : Nat) (h1 : cs.length = n * z) (h2 : cur.length = c * z) (h3 : n ≤ c) (h4 : c ≤ maxLen) (h5 : cur.take (n * z) = cs) : (row (some ⟨W.heap.size, 0, none⟩) n c cs t z).P (W.alloc (.cells cur.toArray t)) :=
  ⟨h1, .inr ⟨_, _, _, rfl, Nat.zero_le _, heap_alloc_new _ _, h3, h4, by simpa using h2, by simpa using h5⟩⟩
theorem St.newRow (HS : St W0 M W L) (n c : Nat) (cs cur : List Value) (t z : Nat) (h1 : cs.length = n * z) (h2 : cur.length = c * z) (h3 : n ≤ c) (h4 : c ≤ maxLen) (h5 : cur.take (n * z) = cs) : St W0 M (W.alloc (.cells cur.toArray t)) (row (some ⟨W.heap.size, 0, none⟩) n c cs t z :: L) :=
  HS.new (.alloc _ _) (row_new W n c cs cur t z h1 h2 h3 h4 h5) (fun k hk => by simp [row, Value.ownBlock] at hk; subst hk; exact ⟨Nat.le_refl _, by simp⟩)
/-- A literal slice. -/
theorem kl (HS : St W0 M W L) (n : Nat) (cs : List Value) (t z : Nat) (hw : Region.wanted ⟨some d, op, ty, ps, af, gd⟩ (yielded ops (FrG D l).tmps) = true)
    (hr : (execOp (FrG D l).eval ⟨some d, op, ty, ps, af, gd⟩).run P W = .ok (.value (.slice (some ⟨W.heap.size, 0, none⟩) n n)) (W.alloc (.cells cs.toArray t))) (h1 : cs.length = n * z) (h2 : n ≤ 140737488355327)
    (h : ∀ g W', St W0 M W' (row (some ⟨g, 0, none⟩) n n cs t z :: L) → wpList P ops Q rest (FrG D (l.set d (.slice (some ⟨g, 0, none⟩) n n))) W') : wpList P ops Q (⟨some d, op, ty, ps, af, gd⟩ :: rest) (FrG D l) W :=
  qw _ hw hr (h _ _ (HS.newRow n n cs cs t z h1 h1 (Nat.le_refl _) (by unfold maxLen; omega) (List.take_of_length_le (by omega))))
theorem madeCells_list (zs : List Value) (n : Nat) (hz : 0 < zs.length) : madeCells zs.toArray (n * zs.length) = ((List.replicate n zs).flatten).toArray := by
  apply Array.ext'
  simp only [madeCells]
  apply List.ext_getElem?
  intro j
  have hlen : ((List.replicate n zs).flatten).length = n * zs.length := by simp
  rcases Nat.lt_or_ge j (n * zs.length) with hj | hj
  · have hm : j % zs.length < zs.length := Nat.mod_lt _ hz
    simp only [Array.toList_map, Array.toList_range, List.getElem?_map, List.getElem?_range hj, Option.map_some]
    have key : ∀ (n j : Nat), j < n * zs.length → ((List.replicate n zs).flatten)[j]? = zs[j % zs.length]? := by
      intro n
      induction n with
      | zero => intro j hj; omega
      | succ n ih =>
        intro j hj
        rw [List.replicate_succ, List.flatten_cons]
        rcases Nat.lt_or_ge j zs.length with h1 | h1
        · rw [List.getElem?_append_left h1, Nat.mod_eq_of_lt h1]
        · rw [List.getElem?_append_right h1, ih (j - zs.length) (by rw [Nat.add_mul, Nat.one_mul] at hj; omega), Nat.mod_eq_sub_mod h1]
    rw [key n j hj, List.getElem?_eq_getElem hm]
    simp [hm]
  · rw [List.getElem?_eq_none (by simpa using hj), List.getElem?_eq_none (by simpa using hj)]
theorem zeroV {e : TypeId} {zs : List Value} (hz : ((P.info? e).bind (·.zero)).map (·.cells) = some zs.toArray) : ∃ i zv, P.info? e = some i ∧ i.zero = some zv ∧ zv.cells = zs.toArray := by
  cases hi : P.info? e with
  | none => rw [hi] at hz; cases hz
  | some i =>
    rw [hi] at hz
    simp only [Option.bind_some] at hz
    cases hv : i.zero with
    | none => rw [hv] at hz; cases hz
    | some zv => rw [hv] at hz; exact ⟨i, zv, rfl, hv, by simpa using hz⟩
/-- make([]T, n). -/
theorem km {t : TypeId} {x y : Operand} {e : Nat} {k1 k2 : IntKind} (HS : St W0 M W L) (n : Nat) (zs : List Value) (by_ : Nat) (hw : Region.wanted ⟨some d, .makeSlice t x y, ty, ps, af, gd⟩ (yielded ops (FrG D l).tmps) = true)
    (hx : (FrG D l).eval x = .int k1 (n : Int)) (hy : (FrG D l).eval y = .int k2 (n : Int)) (ht : P.underlying t = some (.slice e)) (hz : ((P.info? e).bind (·.zero)).map (·.cells) = some zs.toArray) (hs : (P.info? e).map (·.size) = some zs.length) (hb : (P.info? e).map (·.bytes) = some by_) (h0 : 0 < zs.length) (hn : n ≤ 140737488355327) (hm : by_ * n ≤ 281474976710656)
    (h : ∀ g W', St W0 M W' (row (some ⟨g, 0, none⟩) n n ((List.replicate n zs).flatten) e zs.length :: L) → wpList P ops Q rest (FrG D (l.set d (.slice (some ⟨g, 0, none⟩) n n))) W') : wpList P ops Q (⟨some d, .makeSlice t x y, ty, ps, af, gd⟩ :: rest) (FrG D l) W := by
  obtain ⟨i, zv, hi, hzv, hc⟩ := zeroV hz
  rw [hi] at hs hb
  have hs' : i.size = zs.length := by simpa using hs
  have hb' : i.bytes = by_ := by simpa using hb
  have hr := run_make (P := P) W t e i zv ht hi hzv k1 k2 (n : Int) (n : Int) (by omega) (Int.le_refl _) (by rw [hb', ← Int.natCast_mul]; omega) (by omega)
  rw [hc, hs', Int.toNat_natCast, madeCells_list zs n h0] at hr
  refine qw (W' := W.alloc (.cells ((List.replicate n zs).flatten).toArray e)) (.slice (some ⟨W.heap.size, 0, none⟩) n n) hw ?_ (h _ _ (HS.newRow n n _ _ e zs.length (by simp) (by simp) (Nat.le_refl _) (by unfold maxLen; omega) (List.take_of_length_le (by simp))))
  simp [execOp, hx, hy, hr]
/-- What is appended. -/
structure Src (W : World) (x : Value) (m z : Nat) (news : List Value) : Prop where
  val : ∃ A c, x = .slice A m c ∧ ((A = none ∧ m = 0) ∨ ∃ ad, A = some ad ∧ ∀ j u, news[j]? = some u → W.cell? (ad.add j) = some u)
  len : news.length = m * z
  one : ∀ u ∈ news, u.oneCell' = true
theorem Src.of_row (HS : St W0 M W L) {i n c t z : Nat} {A : Option Addr} {cs : List Value} (hi : L[i]? = some (row A n c cs t z)) (h1 : ∀ u ∈ cs, u.oneCell' = true) : Src W (.slice A n c) n z cs := by
  refine ⟨⟨A, c, rfl, ?_⟩, HS.rlen hi, h1⟩
  rcases (HS.rowE hi).2 with ⟨e, h2⟩ | ⟨g, cap, cur, e, _⟩
  · cases e; exact .inl ⟨rfl, rfl⟩
  · cases e; exact .inr ⟨_, rfl, (HS.rowE hi).cells rfl⟩
theorem run_append_none {t ty' e : TypeId} {i : TypeInfo} (ht : P.underlying t = some (.slice e)) (hi : P.info? e = some i) (A : Option Addr) (n c c2 : Nat) (hc : n ≤ c) (hc2 : c ≤ 9223372036854775807) :
    (Builtin.append_ #[t, t] ty' #[.slice A n c, .slice none 0 c2]).run P W = .ok (.slice A n c) W := by
  cases A <;> simp [Builtin.append_, run_underlying ht, sizeOf, typeInfo, hi, Builtin.lenOf, hc, Builtin.firstCells, storeCells]
theorem append_own {t ty' e : TypeId} (HS : St W0 M W L) {i n c z : Nat} {A : Option Addr} {cs : List Value} (hi : L[i]? = some (row A n c cs e z)) (zs : List Value) (by_ : Nat) {x : Value} {m : Nat} {news : List Value} (hsrc : Src W x m z news)
    (ht : P.underlying t = some (.slice e)) (hz : ((P.info? e).bind (·.zero)).map (·.cells) = some zs.toArray) (hzl : zs.length = z) (hs : (P.info? e).map (·.size) = some z) (hb : (P.info? e).map (·.bytes) = some by_) (h0 : 0 < z) (h63 : n + m ≤ 140737488355327) (hbytes : (n + m) * by_ ≤ 140737488355328) :
    ∃ A' c' W', (Builtin.append_ #[t, t] ty' #[.slice A n c, x]).run P W = .ok (.slice A' (n + m) c') W' ∧ St W0 M W' (L.set i (row A' (n + m) c' (cs ++ news) e z)) ∧ Kpt (row A n c cs e z).own W W' := by
  obtain ⟨ti, zv, hti, hzv, hc⟩ := zeroV hz
  rw [hti] at hs hb
  have hs' : ti.size = z := by simpa using hs
  have hb' : ti.bytes = by_ := by simpa using hb
  obtain ⟨B, c2, rfl, hB⟩ := hsrc.val
  have hr := HS.rowE hi
  rcases hB with ⟨rfl, rfl⟩ | ⟨ad, rfl, hcell⟩
  · have hn : news = [] := List.eq_nil_of_length_eq_zero (by rw [hsrc.len]; omega)
    subst hn
    have hcap := HS.rcap hi
    refine ⟨A, c, W, run_append_none ht hti A n c c2 hcap.1 (by have := hcap.2; unfold maxLen at this; omega), ?_⟩
    rw [Nat.add_zero, List.append_nil]
    exact ⟨HS.turn hi id (fun _ h => h), .refl _ _⟩
  · obtain ⟨v', w', hrun, hown, hgr, _, hat⟩ := run_append_own_at W 0 t ty' e ti zv z by_ ht hti hzv hs' hb' (by rw [hc]; simpa using hzl) h0 _ n cs hr ad m c2 news hsrc.len hcell hsrc.one (by unfold maxLen; omega) hbytes (Nat.zero_le _)
    have hv : ∃ A' c', v' = .slice A' (n + m) c' := by
      rcases hown.2 with ⟨e, h⟩ | ⟨g, cap, cur, e, _⟩
      · exact ⟨none, 0, by rw [e, h]⟩
      · exact ⟨_, _, e⟩
    obtain ⟨A', c', rfl⟩ := hv
    refine ⟨A', c', w', hrun, HS.upd hi (e' := row A' (n + m) c' (cs ++ news) e z) (.of_grown hgr (fun k hk => hk)) hown (fun k hk => ⟨?_, (hown.lt k hk).2⟩), .of_grown hgr (fun k hk => hk)⟩
    have hk' : (Value.slice A' (n + m) c').ownBlock = some k := hk
    rcases hat with h | h
    · exact .inl (show (Value.slice A n c).ownBlock = some k from h ▸ hk')
    · rw [h] at hk'
      exact .inr (Nat.le_of_eq (Option.some.inj hk'))
theorem St.nilRow (HS : St W0 M W L) (t z : Nat) : St W0 M W (row none 0 0 [] t z :: L) :=
  HS.new (.refl _ _) (World.ownsRow_nil W 0 t z) (fun k hk => by cases hk)
theorem R_append {t : TypeId} {s x : Operand} {u v : Value} {r : Value} (hs : a.eval s = u) (hx : a.eval x = v) (h : (Builtin.append_ #[t, t] ty #[u, v]).run P W = .ok r W') :
    (execOp a.eval ⟨dst, .call { callee := .builtin .append, args := #[s, x], argTypes := #[t, t] }, ty, ps, af, gd⟩).run P W = .ok (.value r) W' := by
  simp [execOp, resolve, invoke, builtin, hs, hx, h]
/-- append to a row of one's own. -/
theorem ka {t e : TypeId} {s x : Operand} (HS : St W0 M W L) (i : Nat) {n c z m : Nat} {A : Option Addr} {cs news : List Value} {xv : Value} (hi : L[i]? = some (row A n c cs e z)) (hsrc : Src W xv m z news) (zs : List Value) (by_ : Nat)
    (hw : Region.wanted ⟨some d, .call { callee := .builtin .append, args := #[s, x], argTypes := #[t, t] }, ty, ps, af, gd⟩ (yielded ops (FrG D l).tmps) = true)
    (hs : (FrG D l).eval s = .slice A n c) (hx : (FrG D l).eval x = xv)
    (ht : P.underlying t = some (.slice e)) (hz : ((P.info? e).bind (·.zero)).map (·.cells) = some zs.toArray) (hzl : zs.length = z) (hsz : (P.info? e).map (·.size) = some z) (hb : (P.info? e).map (·.bytes) = some by_) (h0 : 0 < z) (h63 : n + m ≤ 140737488355327) (hbytes : (n + m) * by_ ≤ 140737488355328)
    (h : ∀ A' c' W', St W0 M W' (L.set i (row A' (n + m) c' (cs ++ news) e z)) → wpList P ops Q rest (FrG D (l.set d (.slice A' (n + m) c'))) W') :
    wpList P ops Q (⟨some d, .call { callee := .builtin .append, args := #[s, x], argTypes := #[t, t] }, ty, ps, af, gd⟩ :: rest) (FrG D l) W := by
  obtain ⟨A', c', W', hrun, HS', _⟩ := append_own (ty' := ty) HS hi zs by_ hsrc ht hz hzl hsz hb h0 h63 hbytes
  exact qw _ hw (R_append hs hx hrun) (h _ _ _ HS')
/-! the code -/
/-- A drawn region whose first n rows only read. -/
theorem rg_still {id : Nat} {ol : List Oper} (HS : St W0 M W L) (n : Nat) (hm : P.follows .mixedOrders = true) (hB : Region.lexTailB .any ol.toArray n = true)
    (h : ∀ W', St W0 M W' L → Kpt (fun _ => False) W W' → wpStill P ol.toArray W' (fun a' => wpList P ol.toArray Q (ol.drop n) a' W') (ol.take n) a) : (Code.region id ol.toArray true).wp P Q a W :=
  wp_region_still_tail n hm hB (h _ (HS.drew _) (.drew _ _))
theorem calls_enter {f : FuncId} {fn : Func} {c : Code} {args : Array Value} {w : World} {R : Ending → World → Prop} (fl : List Value) (hf : P.funcs[f]? = some fn) (hb : fn.body = some c) (ha : (args.toList ++ List.replicate (fn.ntmps - args.size) undef) = fl)
    (h : c.wp P (bodyPost P fn R) (Fr fl) w) : Calls P f args w R := by
  refine calls_of_wp hf hb ?_
  have e : (args ++ Array.replicate (fn.ntmps - args.size) undef) = fl.toArray := by rw [← ha]; apply Array.ext'; simp
  rw [e]; exact h
theorem ret_ {fn : Func} {R : Ending → World → Prop} (v : Value) (hr : (results fn (Fr l).tmps).run P W = .ok v W) (h : R (.returned v) W) : bodyPost P fn R .ret (Fr l) W := ⟨rfl, v, hr, h⟩
theorem end_ {fn : Func} {R : Ending → World → Prop} (v : Value) (hr : (results fn (Fr l).tmps).run P W = .ok v W) (h : R (.returned v) W) : bodyPost P fn R .normal (Fr l) W := ⟨rfl, v, hr, h⟩
end

/-! ### small words -/
section
variable {P : Program} {Q : Exit → Act → World → Prop} {next : Act → World → Prop} {a : Act} {D : Option Nat} {l : List Value} {W W' W0 : World} {M : Nat → Prop} {L : List Ent} {id j : Nat}
theorem x_then (h : next a W) : Exit.then next Q .normal a W := h
theorem x_thenE (h : Q (.exit id) a W) : Exit.then next Q (.exit id) a W := h
theorem x_thenR (h : Q .ret a W) : Exit.then next Q .ret a W := h
theorem x_inb (h : Q .normal a W) : Exit.inBlock id Q .normal a W := h
theorem x_inbR (h : Q .ret a W) : Exit.inBlock id Q .ret a W := h
theorem x_hit (h : Q .normal a W) : Exit.inBlock id Q (.exit id) a W := by simpa [Exit.inBlock] using h
theorem one_ {news : List Value} (h : news.all (·.oneCell') = true) : ∀ u ∈ news, u.oneCell' = true := List.all_eq_true.1 h
theorem beq_t {x y : Int} (h : x = y) : (x == y) = true := beq_iff_eq.2 h
theorem beq_f {x y : Int} (h : ¬ x = y) : (x == y) = false := beq_eq_false_iff_ne.2 h
theorem bne_t {x y : Int} (h : ¬ x = y) : (x != y) = true := bne_iff_ne.2 h
theorem bne_f {x y : Int} (h : x = y) : (x != y) = false := by simp [h]
theorem k_eq {x : Value} {k : IntKind} {m n : Int} (h : x = .int k m) (e : m = n) : x = .int k n := e ▸ h
theorem kb_eq {x : Value} {b c : Bool} (h : x = .bool b) (e : b = c) : x = .bool c := e ▸ h
theorem owns_nil (k : Nat) : ¬ owns [] k := fun ⟨_, h, _⟩ => nomatch h
/-- A cell that was there, of what nothing writes. -/
theorem St.old (HS : St W0 M W L) {p : Addr} {v : Value} (hM : ¬ M p.block) (h : W0.cell? p = some v) : W.cell? p = some v :=
  (World.cell?_of_block (HS.kept.block p.block (World.block_lt_of_cell? W0 p h) hM)).trans h
theorem St.old0 (HS : St W0 (owns []) W L) {p : Addr} {v : Value} (h : W0.cell? p = some v) : W.cell? p = some v := HS.old (owns_nil _) h
/-- Cells that are read. -/
def Rd (W : World) (A : Option Addr) (cs : List Value) : Prop := ∀ j v, cs[j]? = some v → ∃ ad, A = some ad ∧ W.cell? (ad.add j) = some v
theorem Rd.below {A : Option Addr} {cs : List Value} (h : Rd W A cs) (hb : Below W.heap.size W W') : Rd W' A cs := fun j v hv =>
  let ⟨ad, e, hc⟩ := h j v hv; ⟨ad, e, (hb.cell (World.block_lt_of_cell? W _ hc)).trans hc⟩
theorem Rd.old0 {A : Option Addr} {cs : List Value} (h : Rd W0 A cs) (HS : St W0 (owns []) W L) : Rd W A cs := fun j v hv =>
  let ⟨ad, e, hc⟩ := h j v hv; ⟨ad, e, HS.old0 hc⟩
theorem Rd.isSome_ {A : Option Addr} {cs : List Value} (h : Rd W A cs) (hn : 0 < cs.length) : ∃ ad, A = some ad := by
  obtain ⟨ad, e, _⟩ := h 0 _ (List.getElem?_eq_getElem hn); exact ⟨ad, e⟩
theorem Rd.at_ {ad : Addr} {cs : List Value} (h : Rd W (some ad) cs) {j : Nat} {v : Value} (hv : cs[j]? = some v) : W.cell? (ad.add j) = some v := by
  obtain ⟨_, e, hc⟩ := h j v hv; cases e; exact hc
theorem Rd.row (HS : St W0 M W L) {i n c t z : Nat} {A : Option Addr} {cs : List Value} (hi : L[i]? = some (row A n c cs t z)) : Rd W A cs := by
  rcases (HS.rowE hi).2 with ⟨e, h2⟩ | ⟨g, cap, cur, e, _⟩
  · intro j v hv
    have := (HS.rowE hi).1
    rw [h2, Nat.zero_mul] at this
    rw [List.eq_nil_of_length_eq_zero this] at hv; simp at hv
  · intro j v hv
    cases e
    exact ⟨_, rfl, (HS.rowE hi).cells rfl j v hv⟩
theorem Src.of_rd {A : Option Addr} {n c z : Nat} {cs : List Value} (h : Rd W A cs) (hl : cs.length = n * z) (hz : 0 < z) (hA : n = 0 → A = none ∨ ∃ ad, A = some ad) (h1 : ∀ u ∈ cs, u.oneCell' = true) : Src W (.slice A n c) n z cs := by
  refine ⟨⟨A, c, rfl, ?_⟩, hl, h1⟩
  cases A with
  | none =>
    left
    refine ⟨rfl, ?_⟩
    rcases Nat.eq_zero_or_pos n with h0 | h0
    · exact h0
    · obtain ⟨ad, e⟩ := h.isSome_ (by rw [hl]; exact Nat.mul_pos h0 hz); cases e
  | some ad => exact .inr ⟨ad, rfl, fun j u hu => h.at_ hu⟩
end
/-! rows of whole numbers -/
def ci (k : IntKind) (xs : List Int) : List Value := xs.map (Value.int k)
theorem ci_len (k : IntKind) (xs : List Int) : (ci k xs).length = xs.length := by simp [ci]
theorem ci_one {k : IntKind} {xs : List Int} : ∀ u ∈ ci k xs, u.oneCell' = true := by
  intro u hu; simp only [ci, List.mem_map] at hu; obtain ⟨x, _, rfl⟩ := hu; rfl
def rdI (xs : List Int) (i : Int) : Int := xs.getD i.toNat 0
theorem ci_rd {k : IntKind} {xs : List Int} {i : Int} (h0 : 0 ≤ i) (h1 : i < xs.length) : (ci k xs)[i.toNat]? = some (.int k (rdI xs i)) := by
  have h : i.toNat < xs.length := by omega
  simp [ci, rdI, h]
theorem ci_set (k : IntKind) (xs : List Int) (j : Nat) (v : Int) : splice (ci k xs) j [.int k v] = ci k (xs.set j v) := by simp [splice, ci]
theorem ci_app (k : IntKind) (xs ys : List Int) : ci k (xs ++ ys) = ci k xs ++ ci k ys := by simp [ci]
theorem ci_rep (k : IntKind) (n : Nat) (x : Int) : ci k (List.replicate n x) = (List.replicate n [Value.int k x]).flatten := by
  induction n with
  | zero => rfl
  | succ n ih => rw [List.replicate_succ, List.replicate_succ, List.flatten_cons, ← ih]; rfl
/-! rows of structs -/
def cf {α : Type} (f : α → List Value) (xs : List α) : List Value := xs.flatMap f
theorem cf_len {α : Type} {f : α → List Value} {z : Nat} (hf : ∀ x, (f x).length = z) (xs : List α) : (cf f xs).length = xs.length * z := by
  induction xs with
  | nil => simp [cf]
  | cons x xs ih => simp only [cf, List.flatMap_cons, List.length_append, hf, List.length_cons]; have : (List.flatMap f xs).length = xs.length * z := ih; rw [this, Nat.add_mul]; omega
theorem cf_app {α : Type} (f : α → List Value) (xs ys : List α) : cf f (xs ++ ys) = cf f xs ++ cf f ys := by simp [cf]
theorem cf_rd {α : Type} {f : α → List Value} {z : Nat} (hf : ∀ x, (f x).length = z) : ∀ (xs : List α) (i k : Nat) (x : α), xs[i]? = some x → k < z → (cf f xs)[i * z + k]? = (f x)[k]?
  | [], i, k, x, h, _ => by simp at h
  | y :: xs, 0, k, x, h, hk => by
    simp only [List.getElem?_cons_zero, Option.some.injEq] at h
    subst h
    show (f y ++ xs.flatMap f)[0 * z + k]? = _
    rw [Nat.zero_mul, Nat.zero_add, List.getElem?_append_left (by rw [hf]; exact hk)]
  | y :: xs, i + 1, k, x, h, hk => by
    simp only [List.getElem?_cons_succ] at h
    show (f y ++ xs.flatMap f)[(i + 1) * z + k]? = _
    rw [List.getElem?_append_right (by rw [hf, Nat.add_mul]; omega), hf, show (i + 1) * z + k - z = i * z + k by rw [Nat.add_mul]; omega]
    exact cf_rd hf xs i k x h hk
theorem cf_set {α : Type} {f : α → List Value} {z : Nat} (hf : ∀ x, (f x).length = z) (hz : 0 < z) : ∀ (xs : List α) (i : Nat) (x : α), i < xs.length → splice (cf f xs) (i * z) (f x) = cf f (xs.set i x)
  | [], i, x, h => by simp at h
  | y :: xs, 0, x, h => by
    rw [splice_eq _ _ _ (by rw [hf, cf_len hf]; simp; rw [Nat.add_mul]; omega)]
    show List.take (0 * z) (f y ++ xs.flatMap f) ++ f x ++ List.drop (0 * z + (f x).length) (f y ++ xs.flatMap f) = f x ++ xs.flatMap f
    rw [Nat.zero_mul, hf, List.take_zero, List.nil_append, Nat.zero_add, ← hf y, List.drop_left]
  | y :: xs, i + 1, x, h => by
    have hi : i < xs.length := by simpa using h
    have hm : (i + 1) * z ≤ (xs.length) * z := Nat.mul_le_mul_right _ hi
    have ih := cf_set hf hz xs i x hi
    rw [splice_eq _ _ _ (by rw [hf, cf_len hf, ← Nat.succ_mul]; exact Nat.mul_le_mul_right _ hi)] at ih
    rw [splice_eq _ _ _ (by rw [hf, cf_len hf, ← Nat.succ_mul]; exact Nat.mul_le_mul_right _ h)]
    show List.take ((i + 1) * z) (f y ++ xs.flatMap f) ++ f x ++ List.drop ((i + 1) * z + (f x).length) (f y ++ xs.flatMap f) = f y ++ cf f (xs.set i x)
    rw [← ih, List.take_append, List.drop_append, hf, hf, show (i + 1) * z - z = i * z by rw [Nat.add_mul]; omega, show (i + 1) * z + z - z = i * z + z by rw [Nat.add_mul]; omega,
      List.take_of_length_le (by rw [hf, Nat.add_mul]; omega), List.drop_eq_nil_of_le (by rw [hf, Nat.add_mul]; omega), List.nil_append, List.append_assoc, List.append_assoc, List.append_assoc]
    rfl
theorem cf_one {α : Type} {f : α → List Value} (h : ∀ x, (f x).all (·.oneCell') = true) {xs : List α} : ∀ u ∈ cf f xs, u.oneCell' = true := by
  intro u hu; simp only [cf, List.mem_flatMap] at hu; obtain ⟨x, _, hx⟩ := hu; exact List.all_eq_true.1 (h x) u hx
/-- What is owned, in another order. -/
theorem perm_ {L L' : List Ent} (is : List Nat) (hp : is.isPerm (List.range L.length) = true) (h : is.filterMap (L[·]?) = L') : L.Perm L' := by
  have h1 := (List.isPerm_iff.1 hp).filterMap (L[·]?)
  rw [h] at h1
  have h2 : (List.range L.length).filterMap (L[·]?) = L := by
    clear h1 h hp
    induction L with
    | nil => rfl
    | cons a L ih => rw [List.length_cons, List.range_succ_eq_map, List.filterMap_cons]; simp only [List.getElem?_cons_zero, List.filterMap_map]; congr 1
  rw [h2] at h1
  exact h1.symm
theorem add_add (a : Addr) (m k : Nat) : (a.add m).add k = a.add (m + k) := by
  unfold Addr.add
  by_cases hm : m = 0 <;> by_cases hk : k = 0 <;> simp [hm, hk, Nat.add_assoc]
section
variable {P : Program} {a : Act} {W W' W0 : World} {M : Nat → Prop} {L : List Ent} {d : Nat} {ty : TypeId} {ps : String} {af : Array Edge} {gd : Option (Nat × Bool)} {dst : Option Nat}
theorem R_indexA1 {t : TypeId} {x y : Operand} {p : Addr} {n c e : Nat} {k : IntKind} {i : Int} (hx : a.eval x = .slice (some p) n c) (hy : a.eval y = .int k i) (ht : P.underlying t = some (.slice e)) (hz : (P.info? e).map (·.size) = some 1) (h0 : 0 ≤ i) (h1 : i < n) :
    (execOp a.eval ⟨dst, .indexAddr t x y, ty, ps, af, gd⟩).run P W = .ok (.value (.pointer (some (p.add i.toNat)))) W := by
  rw [R_indexA hx hy ht hz h0 h1, Nat.mul_one]
/-- An element of a row of structs that is read. -/
theorem Rd.elem {α : Type} {f : α → List Value} {z : Nat} (hf : ∀ x, (f x).length = z) {ad : Addr} {xs : List α} (h : Rd W (some ad) (cf f xs)) {i : Nat} {x : α} (hx : xs[i]? = some x) : ∀ j v, (f x)[j]? = some v → W.cell? ((ad.add (i * z)).add j) = some v := by
  intro j v hv
  have hj : j < z := by rw [← hf x]; exact (List.getElem?_eq_some_iff.1 hv).1
  rw [add_add]
  exact h.at_ ((cf_rd hf xs i j x hx hj).trans hv)
theorem Rd.elem1 {α : Type} {f : α → List Value} {z : Nat} (hf : ∀ x, (f x).length = z) {ad : Addr} {xs : List α} (h : Rd W (some ad) (cf f xs)) {i k : Nat} {x : α} {v : Value} (hx : xs[i]? = some x) (hv : (f x)[k]? = some v) : W.cell? ((ad.add (i * z)).add k) = some v := Rd.elem hf h hx k v hv
theorem Rd.elem0 {α : Type} {f : α → List Value} {z : Nat} (hf : ∀ x, (f x).length = z) {ad : Addr} {xs : List α} (h : Rd W (some ad) (cf f xs)) {i : Nat} {x : α} {v : Value} (hx : xs[i]? = some x) (hv : (f x)[0]? = some v) : W.cell? (ad.add (i * z)) = some v := by
  have := Rd.elem hf h hx 0 v hv
  rwa [Addr.add_zero'] at this
theorem St.oldN (HS : St W0 (owns []) W L) {p : Addr} {cs : List Value} (h : ∀ j v, cs[j]? = some v → W0.cell? (p.add j) = some v) : ∀ j v, cs[j]? = some v → W.cell? (p.add j) = some v := fun j v hv => HS.old0 (h j v hv)
/-- An element of one's own row of structs. -/
theorem St.elem (HS : St W0 M W L) {α : Type} {f : α → List Value} {z : Nat} (hf : ∀ x, (f x).length = z) {i g n c t : Nat} {xs : List α} (hi : L[i]? = some (row (some ⟨g, 0, none⟩) n c (cf f xs) t z)) {j : Nat} {x : α} (hx : xs[j]? = some x) : ∀ k v, (f x)[k]? = some v → W.cell? ((⟨g, j * z, none⟩ : Addr).add k) = some v := by
  intro k v hv
  have hk : k < z := by rw [← hf x]; exact (List.getElem?_eq_some_iff.1 hv).1
  rw [Addr.add_lit]
  exact HS.rcell hi ((cf_rd hf xs j k x hx hk).trans hv)
theorem St.elem1 (HS : St W0 M W L) {α : Type} {f : α → List Value} {z : Nat} (hf : ∀ x, (f x).length = z) {i g n c t : Nat} {xs : List α} (hi : L[i]? = some (row (some ⟨g, 0, none⟩) n c (cf f xs) t z)) {j k : Nat} {x : α} {v : Value} (hx : xs[j]? = some x) (hv : (f x)[k]? = some v) : W.cell? ⟨g, j * z + k, none⟩ = some v := by
  have := HS.elem hf hi hx k v hv
  rwa [Addr.add_lit] at this
theorem St.elem0 (HS : St W0 M W L) {α : Type} {f : α → List Value} {z : Nat} (hf : ∀ x, (f x).length = z) {i g n c t : Nat} {xs : List α} (hi : L[i]? = some (row (some ⟨g, 0, none⟩) n c (cf f xs) t z)) {j : Nat} {x : α} {v : Value} (hx : xs[j]? = some x) (hv : (f x)[0]? = some v) : W.cell? ⟨g, j * z, none⟩ = some v := HS.elem1 hf hi (k := 0) hx hv
end
def gx {α : Type} [Inhabited α] (xs : List α) (i : Int) : α := xs.getD i.toNat default
theorem gx_eq {α : Type} [Inhabited α] {xs : List α} {i : Int} (h0 : 0 ≤ i) (h1 : i < xs.length) : xs[i.toNat]? = some (gx xs i) := by
  have h : i.toNat < xs.length := by omega
  simp [gx, h]
theorem rdI_eq {xs : List Int} {i : Int} (h0 : 0 ≤ i) (h1 : i < xs.length) : xs[i.toNat]? = some (rdI xs i) := by
  have h : i.toNat < xs.length := by omega
  simp [rdI, h]
/-! results that lie in memory -/
section
variable {P : Program} {W W0 : World} {M : Nat → Prop} {L : List Ent} {tmps : Array Value} {fn : Func}
theorem Src.of_rd' {A : Option Addr} {n c z : Nat} {cs : List Value} (h : Rd W A cs) (hl : cs.length = n * z) (hz : 0 < z) (h1 : ∀ u ∈ cs, u.oneCell' = true) : Src W (.slice A n c) n z cs :=
  Src.of_rd h hl hz (fun _ => by cases A; exact .inl rfl; exact .inr ⟨_, rfl⟩) h1
end
section
variable {P : Program} {ops : Array Oper} {Q : Exit → Act → World → Prop} {rest : List Oper} {D : Option Nat} {l : List Value} {W W0 : World} {M : Nat → Prop} {L : List Ent} {d : Nat} {ty : TypeId} {ps : String} {af : Array Edge} {gd : Option (Nat × Bool)}
/-- append, what comes of it told in words of one's own. -/
theorem ka1 {t e : TypeId} {s x : Operand} (HS : St W0 M W L) (i : Nat) {n c z m : Nat} {A : Option Addr} {cs news : List Value} {xv : Value} (hi : L[i]? = some (row A n c cs e z)) (hsrc : Src W xv m z news) (zs : List Value) (by_ n' : Nat) (cs' : List Value) (hn : n + m = n') (hcs : cs ++ news = cs')
    (hw : Region.wanted ⟨some d, .call { callee := .builtin .append, args := #[s, x], argTypes := #[t, t] }, ty, ps, af, gd⟩ (yielded ops (FrG D l).tmps) = true)
    (hs : (FrG D l).eval s = .slice A n c) (hx : (FrG D l).eval x = xv)
    (ht : P.underlying t = some (.slice e)) (hz : ((P.info? e).bind (·.zero)).map (·.cells) = some zs.toArray) (hzl : zs.length = z) (hsz : (P.info? e).map (·.size) = some z) (hb : (P.info? e).map (·.bytes) = some by_) (h0 : 0 < z) (h63 : n' ≤ 140737488355327) (hbytes : n' * by_ ≤ 140737488355328)
    (h : ∀ A' c' W', St W0 M W' (L.set i (row A' n' c' cs' e z)) → wpList P ops Q rest (FrG D (l.set d (.slice A' n' c'))) W') :
    wpList P ops Q (⟨some d, .call { callee := .builtin .append, args := #[s, x], argTypes := #[t, t] }, ty, ps, af, gd⟩ :: rest) (FrG D l) W := by
  subst hn; subst hcs
  exact ka HS i hi hsrc zs by_ hw hs hx ht hz hzl hsz hb h0 h63 hbytes h
end
theorem cf_rep {α : Type} {f : α → List Value} (x : α) (n : Nat) : cf f (List.replicate n x) = (List.replicate n (f x)).flatten := by
  induction n with
  | zero => rfl
  | succ n ih => rw [List.replicate_succ, List.replicate_succ, List.flatten_cons, ← ih]; rfl
attribute [irreducible] rdI gx ci cf
/-! ### drawn regions with what makes memory among what reads -/
section
variable {P : Program} {ops : Array Oper} {Q : Exit → Act → World → Prop} {D : Option Nat} {l : List Value} {N : Nat → Prop} {V W W' W0 : World} {M : Nat → Prop} {L : List Ent} {op : Op} {d : Nat} {ty : TypeId} {ps : String} {af : Array Edge} {gd : Option (Nat × Bool)} {dst : Option Nat} {n : Nat} {ls : Array Bool}
def TA (P : Program) (ops : Array Oper) (Q : Exit → Act → World → Prop) (N : Nat → Prop) (V : World) (n : Nat) (ls : Array Bool) (a : Act) (w : World) : Prop := wpAnyH P .any ops Q (fun w' => Kpt N V w') n ls a w
theorem Kpt.cell (h : Kpt (fun _ => False) V W) {p : Addr} {v : Value} (hc : V.cell? p = some v) : W.cell? p = some v :=
  (World.cell?_of_block (h.block p.block (World.block_lt_of_cell? V p hc) (fun f => f))).trans hc
theorem Kpt.cells (h : Kpt (fun _ => False) V W) {p : Addr} {cs : List Value} (hc : ∀ j v, cs[j]? = some v → V.cell? (p.add j) = some v) : ∀ j v, cs[j]? = some v → W.cell? (p.add j) = some v := fun j v hv => h.cell (hc j v hv)
theorem Kpt.tr (h : Kpt N V W) (k : Kpt (fun _ => False) W W') : Kpt N V W' := h.trans k (fun _ f => f.elim)
theorem Kpt.cellN (h : Kpt N V W) {p : Addr} {v : Value} (hn : ¬ N p.block) (hc : V.cell? p = some v) : W.cell? p = some v :=
  (World.cell?_of_block (h.block p.block (World.block_lt_of_cell? V p hc) hn)).trans hc
theorem St.sepB (HS : St W0 M V L) {a b g t : Nat} {cs : List Value} {e : Ent} (hab : a ≠ b) (ha : L[a]? = some (blk g cs t)) (hb : L[b]? = some e) : ¬ e.own g := by
  have hne := List.pairwise_iff_getElem.1 HS.ne
  obtain ⟨h1, e1⟩ := List.getElem?_eq_some_iff.1 ha
  obtain ⟨h2, e2⟩ := List.getElem?_eq_some_iff.1 hb
  intro ho
  rcases Nat.lt_or_gt_of_ne hab with h | h
  · exact hne a b h1 h2 h g (by rw [e1]; rfl) (by rw [e2]; exact ho)
  · exact hne b a h2 h1 h g (by rw [e2]; exact ho) (by rw [e1]; rfl)
theorem t_start {id : Nat} {ol : List Oper} (HS : St W0 M W L) (N : Nat → Prop) (n : Nat) (hm : P.follows .mixedOrders = true) (hn : ol.toArray.size = n)
    (h : ∀ V, St W0 M V L → Kpt (fun _ => False) W V → TA P ol.toArray Q N V n (Array.replicate n false) (FrG D l) V) : (Code.region id ol.toArray true).wp P Q (FrG D l) W := by
  subst hn
  exact wp_region_held hm (h _ (HS.drew _) (.drew _ _))
theorem t_q (i : Nat) (v : Value) (hi : ops[i]? = some ⟨some d, op, ty, ps, af, gd⟩) (hc : (Region.noSelect ops && Region.free .any ops ls i && (Region.ready .any ops ls).contains i) = true)
    (hw : Region.wanted ⟨some d, op, ty, ps, af, gd⟩ (yielded ops (FrG D l).tmps) = true) (hQ : ∀ c a w, Q (.panic c) (a.put (some d) v) w → Q (.panic c) a w)
    (hr : ∀ w', Kpt N V w' → (execOp (FrG D l).eval ⟨some d, op, ty, ps, af, gd⟩).run P w' = .ok (.value v) w') (hk : Kpt N V W)
    (h : TA P ops Q N V n (ls.setIfInBounds i true) (FrG D (l.set d v)) W) : TA P ops Q N V (n + 1) ls (FrG D l) W := by
  simp only [Bool.and_eq_true] at hc
  refine wpAnyH_take hi hc.1.1 hc.1.2 hc.2 hQ (.inl ⟨hw, fun w' hk' => hr w' hk'⟩) hk ?_
  show wpAnyH _ _ _ _ _ _ _ ((FrG D l).put (some d) v) _
  rw [Fr_put]; exact h
theorem t_one (i : Nat) (hr : Region.ready .any ops ls = [i]) (h : wpOp P ops Q i (fun a' w' => Kpt N V w' ∧ TA P ops Q N V n (ls.setIfInBounds i true) a' w') (FrG D l) W) : TA P ops Q N V (n + 1) ls (FrG D l) W :=
  wpAnyH_all hr (by simp) (fun j hj => by rw [List.mem_singleton] at hj; subst hj; exact h)
/-- What is alone: it gives a value. -/
theorem t_e (i : Nat) (v : Value) (hi : ops[i]? = some ⟨some d, op, ty, ps, af, gd⟩) (hr : Region.ready .any ops ls = [i]) (hw : Region.wanted ⟨some d, op, ty, ps, af, gd⟩ (yielded ops (FrG D l).tmps) = true)
    (hrun : (execOp (FrG D l).eval ⟨some d, op, ty, ps, af, gd⟩).run P W = .ok (.value v) W') (hk : Kpt N V W') (h : TA P ops Q N V n (ls.setIfInBounds i true) (FrG D (l.set d v)) W') : TA P ops Q N V (n + 1) ls (FrG D l) W := by
  refine t_one i hr ?_
  unfold wpOp; rw [hi]; simp only; rw [if_pos hw]
  left; unfold Oper.wp; rw [hrun]
  exact ⟨hk, (Fr_put l d v) ▸ h⟩
theorem t_c (i : Nat) {f : FuncId} {args : Array Value} (hi : ops[i]? = some ⟨some d, op, ty, ps, af, gd⟩) (hr : Region.ready .any ops ls = [i]) (hw : Region.wanted ⟨some d, op, ty, ps, af, gd⟩ (yielded ops (FrG D l).tmps) = true)
    (hrun : (execOp (FrG D l).eval ⟨some d, op, ty, ps, af, gd⟩).run P W = .ok (.enter f args) W) (h : Calls P f args W fun e w' => ∃ v, e = .returned v ∧ Kpt N V w' ∧ TA P ops Q N V n (ls.setIfInBounds i true) (FrG D (l.set d v)) w') : TA P ops Q N V (n + 1) ls (FrG D l) W := by
  refine t_one i hr ?_
  unfold wpOp; rw [hi]; simp only; rw [if_pos hw]
  left; unfold Oper.wp; rw [hrun]
  refine h.mono ?_
  rintro e w' ⟨v, rfl, hk, hv⟩
  exact ⟨hk, (Fr_put l d v) ▸ hv⟩
/-- One of two that may come up. -/
theorem t_pick2 (i j : Nat) (hr : Region.ready .any ops ls = [i, j]) (hi : wpOp P ops Q i (fun a' w' => Kpt N V w' ∧ TA P ops Q N V n (ls.setIfInBounds i true) a' w') (FrG D l) W) (hj : wpOp P ops Q j (fun a' w' => Kpt N V w' ∧ TA P ops Q N V n (ls.setIfInBounds j true) a' w') (FrG D l) W) : TA P ops Q N V (n + 1) ls (FrG D l) W :=
  wpAnyH_all hr (by simp) (fun k hk => by
    rcases List.mem_cons.1 hk with rfl | hk
    · exact hi
    · rw [List.mem_singleton] at hk; subst hk; exact hj)
theorem t_e2 (i : Nat) (v : Value) (hi : ops[i]? = some ⟨some d, op, ty, ps, af, gd⟩) (hw : Region.wanted ⟨some d, op, ty, ps, af, gd⟩ (yielded ops (FrG D l).tmps) = true)
    (hrun : (execOp (FrG D l).eval ⟨some d, op, ty, ps, af, gd⟩).run P W = .ok (.value v) W') (hk : Kpt N V W') (h : TA P ops Q N V n (ls.setIfInBounds i true) (FrG D (l.set d v)) W') : wpOp P ops Q i (fun a' w' => Kpt N V w' ∧ TA P ops Q N V n (ls.setIfInBounds i true) a' w') (FrG D l) W := by
  unfold wpOp; rw [hi]; simp only; rw [if_pos hw]
  left; unfold Oper.wp; rw [hrun]
  exact ⟨hk, (Fr_put l d v) ▸ h⟩
/-- A store. -/
theorem t_s (i : Nat) (hi : ops[i]? = some ⟨none, op, ty, ps, af, gd⟩) (hr : Region.ready .any ops ls = [i]) (hw : Region.wanted ⟨none, op, ty, ps, af, gd⟩ (yielded ops (FrG D l).tmps) = true)
    (hrun : (execOp (FrG D l).eval ⟨none, op, ty, ps, af, gd⟩).run P W = .ok .skip W') (hk : Kpt N V W') (h : TA P ops Q N V n (ls.setIfInBounds i true) (FrG D l) W') : TA P ops Q N V (n + 1) ls (FrG D l) W := by
  refine t_one i hr ?_
  unfold wpOp; rw [hi]; simp only; rw [if_pos hw]
  left; unfold Oper.wp; rw [hrun]
  exact ⟨hk, h⟩
theorem ex_kr {t : TypeId} {x y : Operand} {v : Value} (HS : St W0 M W L) (i : Nat) {g m c tb z : Nat} {cs : List Value} (hi : L[i]? = some (row (some ⟨g, 0, none⟩) m c cs tb z)) (j : Nat) (news : List Value)
    (hx : (FrG D l).eval x = .pointer (some ⟨g, j, none⟩)) (hy : (FrG D l).eval y = v) (hv : v.cells = news.toArray) (hn : (P.info? t).map (·.size) = some news.length) (h1 : ∀ u ∈ news, u.oneCell' = true) (hfit : j + news.length ≤ cs.length) :
    ∃ W', (execOp (FrG D l).eval ⟨none, .store t x y, ty, ps, af, gd⟩).run P W = .ok .skip W' ∧ St W0 M W' (L.set i (row (some ⟨g, 0, none⟩) m c (splice cs j news) tb z)) ∧ Kpt (fun k => k = g) W W' := by
  obtain ⟨cur, hg, hle, HS2⟩ := HS.setRow_ hi j news hfit
  exact ⟨_, R_store news hg hx hy hv hn h1 (by omega), HS2, .setRow _ _ _ rfl⟩
theorem ex_ks {t : TypeId} {x y : Operand} {v : Value} (HS : St W0 M W L) (i : Nat) {g tb : Nat} {cs : List Value} (hi : L[i]? = some (blk g cs tb)) (j : Nat) (news : List Value)
    (hx : (FrG D l).eval x = .pointer (some ⟨g, j, none⟩)) (hy : (FrG D l).eval y = v) (hv : v.cells = news.toArray) (hn : (P.info? t).map (·.size) = some news.length) (h1 : ∀ u ∈ news, u.oneCell' = true) (hfit : j + news.length ≤ cs.length) :
    ∃ W', (execOp (FrG D l).eval ⟨none, .store t x y, ty, ps, af, gd⟩).run P W = .ok .skip W' ∧ St W0 M W' (L.set i (blk g (splice cs j news) tb)) ∧ Kpt (fun k => k = g) W W' :=
  ⟨_, R_store news (HS.blkE hi) hx hy hv hn h1 hfit, HS.setBlk hi, .setRow _ _ _ rfl⟩
theorem row_own {g m c t z k : Nat} {cs : List Value} (h : k = g) : (row (some ⟨g, 0, none⟩) m c cs t z).own k := by subst h; rfl
theorem blk_own {g t k : Nat} {cs : List Value} (h : k = g) : (blk g cs t).own k := h
theorem t_done (hr : Region.ready .any ops ls = []) (h : Q .normal (FrG D l) W) : TA P ops Q N V n ls (FrG D l) W := wpAnyH_done hr h n
end
theorem Kpt.nil {a b : World} (h : Kpt (owns []) a b) : Kpt (fun _ => False) a b := ⟨h.os, h.tape, h.output, h.size, fun k hk _ => h.block k hk (owns_nil k)⟩
theorem wp_seq_cut {P : Program} {Q : Exit → Act → World → Prop} {x y : Code} {a : Act} {w : World} (I : Act → World → Prop) (h1 : x.wp P (Exit.then I Q) a w) (h2 : ∀ a' w', I a' w' → y.wp P Q a' w') : (Code.seq x y).wp P Q a w :=
  wp_seq (Code.wp_mono (fun e a' w' h => by
    cases e with
    | normal => exact h2 a' w' h
    | exit id => exact h
    | goto l => exact h
    | ret => exact h
    | panic ch => exact h
    | outgrown => exact h) h1)

/-! ### maps of whole numbers -/
/-! ### pieces of rows, copies, remainders -/
theorem add_add_ (a : Addr) (m n : Nat) : (a.add m).add n = a.add (m + n) := by
  unfold Addr.add
  by_cases h : m = 0 <;> by_cases h2 : n = 0 <;> simp_all [Nat.add_assoc]
section
variable {P : Program} {ops : Array Oper} {Q : Exit → Act → World → Prop} {R : Act → Prop} {rest : List Oper} {a : Act} {D : Option Nat} {l : List Value} {W W' W0 : World} {M : Nat → Prop} {L : List Ent} {v : Value} {op : Op} {d : Nat} {ty : TypeId} {ps : String} {af : Array Edge} {gd : Option (Nat × Bool)} {dst : Option Nat}
theorem Src.head {A : Option Addr} {n c m : Nat} {cs : List Value} (h : Src W (.slice A n c) n 1 cs) (hm : m ≤ n) : Src W (.slice A m c) m 1 (cs.take m) := by
  have hl := h.len
  refine ⟨?_, by rw [List.length_take]; omega, fun u hu => h.one u (List.mem_of_mem_take hu)⟩
  obtain ⟨B, c', e, hB⟩ := h.val
  cases e
  refine ⟨_, _, rfl, ?_⟩
  rcases hB with ⟨e, h0⟩ | ⟨ad, e, hc⟩
  · exact .inl ⟨e, by omega⟩
  · refine .inr ⟨ad, e, fun j u hu => hc j u ?_⟩
    by_cases hj : j < m
    · rwa [List.getElem?_take_of_lt hj] at hu
    · rw [List.getElem?_eq_none (by rw [List.length_take]; omega)] at hu; cases hu
theorem Src.tail {A : Option Addr} {n c m : Nat} {cs : List Value} (h : Src W (.slice A n c) n 1 cs) (hm : m ≤ n) (hc : n ≤ c) : Src W (.slice (cutA A c m 1) (n - m) (c - m)) (n - m) 1 (cs.drop m) := by
  have hl := h.len
  refine ⟨?_, by rw [List.length_drop]; omega, fun u hu => h.one u (List.mem_of_mem_drop hu)⟩
  obtain ⟨B, c', e, hB⟩ := h.val
  cases e
  refine ⟨_, _, rfl, ?_⟩
  rcases hB with ⟨e, h0⟩ | ⟨ad, e, hc2⟩
  · exact .inl ⟨by unfold cutA; rw [e]; split <;> rfl, by omega⟩
  · subst e
    unfold cutA
    by_cases hcm : c = m
    · rw [if_pos hcm]
      refine .inr ⟨ad, rfl, fun j u hu => ?_⟩
      rw [List.getElem?_eq_none (by rw [List.length_drop]; omega)] at hu; cases hu
    · rw [if_neg hcm]
      refine .inr ⟨_, rfl, fun j u hu => ?_⟩
      rw [List.getElem?_drop] at hu
      rw [Nat.mul_one, add_add_]
      exact hc2 _ u hu
end

/-! ### a ring of whole numbers -/
def ring (bs : List Int) (f n : Nat) : List Int := (List.range n).map fun i => bs.getD ((f + i) % bs.length) 0
structure RQ (bs : List Int) (f n : Nat) (xs : List Int) : Prop where
  hn : n ≤ bs.length
  hf : 0 < bs.length → f < bs.length
  h0 : bs.length = 0 → f = 0
  hb : bs.length ≤ 4398046511104
  hx : xs = ring bs f n
theorem RQ.len {bs xs : List Int} {f n : Nat} (h : RQ bs f n xs) : xs.length = n := by rw [h.hx]; unfold ring; simp
theorem RQ.nil : RQ [] 0 0 [] := ⟨Nat.le_refl _, fun h => by simp at h, fun _ => rfl, by simp, rfl⟩
theorem take_rd {xs : List Int} {i : Int} (h0 : 0 ≤ i) (h1 : i < xs.length) : xs.take (i + 1).toNat = xs.take i.toNat ++ [rdI xs i] := by
  have h : i.toNat < xs.length := by omega
  rw [show (i + 1).toNat = i.toNat + 1 by omega, List.take_succ_eq_append_getElem h]
  unfold rdI
  rw [List.getD_eq_getElem?_getD, List.getElem?_eq_getElem h]
  rfl

/-! ### how many bits of 64 are set, by bytes -/
def bval : List Nat → Nat
  | [] => 0
  | b :: bs => b + 256 * bval bs
theorem and_cons256 {b c y d : Nat} (hb : b < 256) (hc : c < 256) : (b + 256 * y) &&& (c + 256 * d) = (b &&& c) + 256 * (y &&& d) := by
  have hbc : b &&& c < 2 ^ 8 := Nat.and_lt_two_pow b hc
  apply Nat.eq_of_testBit_eq
  intro i
  have e1 : b + 256 * y = 2 ^ 8 * y + b := by omega
  have e2 : c + 256 * d = 2 ^ 8 * d + c := by omega
  have e3 : (b &&& c) + 256 * (y &&& d) = 2 ^ 8 * (y &&& d) + (b &&& c) := by omega
  rw [Nat.testBit_and, e1, e2, e3, Nat.testBit_two_pow_mul_add _ hb, Nat.testBit_two_pow_mul_add _ hc, Nat.testBit_two_pow_mul_add _ hbc]
  split
  · rw [Nat.testBit_and]
  · rw [Nat.testBit_and]
theorem bval_and {bs : List Nat} {c : Nat} (hc : c < 256) (h : ∀ b ∈ bs, b < 256) : bval bs &&& bval (List.replicate bs.length c) = bval (bs.map (· &&& c)) := by
  induction bs with
  | nil => simp [bval]
  | cons b bs ih =>
    simp only [List.length_cons, List.replicate_succ, bval, List.map_cons]
    rw [and_cons256 (h b (by simp)) hc, ih (fun x hx => h x (by simp [hx]))]
theorem bval_shr {k c : Nat} {bs : List Nat} (hc : c < 256) (hk : k ≤ 8) (hm : ∀ b r : Nat, b < 256 → r < 2 ^ k → (b >>> k + 2 ^ (8 - k) * r) &&& c = b >>> k &&& c) (h : ∀ b ∈ bs, b < 256) : bval bs >>> k &&& bval (List.replicate bs.length c) = bval (bs.map fun b => b >>> k &&& c) := by
  induction bs with
  | nil => simp [bval]
  | cons b bs ih =>
    simp only [List.length_cons, List.replicate_succ, bval, List.map_cons]
    have hb := h b (by simp)
    have h2 : 2 ^ k * 2 ^ (8 - k) = 256 := by rw [← Nat.pow_add, show k + (8 - k) = 8 by omega]
    have hpos : 0 < 2 ^ k := Nat.two_pow_pos k
    have e : (b + 256 * bval bs) >>> k = (b >>> k + 2 ^ (8 - k) * (bval bs % 2 ^ k)) + 256 * (bval bs >>> k) := by
      simp only [Nat.shiftRight_eq_div_pow]
      have e1 : b + 256 * bval bs = b + 2 ^ k * (2 ^ (8 - k) * bval bs) := by rw [← Nat.mul_assoc, h2]
      rw [e1, Nat.add_mul_div_left _ _ hpos]
      have e2 : bval bs = 2 ^ k * (bval bs / 2 ^ k) + bval bs % 2 ^ k := (Nat.div_add_mod _ _).symm
      have e3 : 2 ^ (8 - k) * bval bs = 256 * (bval bs / 2 ^ k) + 2 ^ (8 - k) * (bval bs % 2 ^ k) := by
        conv => lhs; rw [e2, Nat.mul_add, ← Nat.mul_assoc, Nat.mul_comm (2 ^ (8 - k)), h2]
      rw [e3]; omega
    have hlt : b >>> k + 2 ^ (8 - k) * (bval bs % 2 ^ k) < 256 := by
      have h3 : b >>> k < 2 ^ (8 - k) := by
        rw [Nat.shiftRight_eq_div_pow]
        exact (Nat.div_lt_iff_lt_mul hpos).2 (by rw [Nat.mul_comm, h2]; exact hb)
      have h4 : bval bs % 2 ^ k + 1 ≤ 2 ^ k := Nat.mod_lt _ hpos
      have h5 : 2 ^ (8 - k) * (bval bs % 2 ^ k + 1) ≤ 2 ^ (8 - k) * 2 ^ k := Nat.mul_le_mul_left _ h4
      rw [Nat.mul_comm (2 ^ (8 - k)) (2 ^ k), h2, Nat.mul_add, Nat.mul_one] at h5
      omega
    rw [e, and_cons256 hlt hc, hm b _ hb (Nat.mod_lt _ hpos), ih (fun x hx => h x (by simp [hx]))]
theorem bval_add {f g : Nat → Nat} (bs : List Nat) : bval (bs.map f) + bval (bs.map g) = bval (bs.map fun b => f b + g b) := by
  induction bs with
  | nil => rfl
  | cons b bs ih => simp only [List.map_cons, bval]; rw [← ih]; omega
theorem bval_nib {bs : List Nat} (h : ∀ b ∈ bs, b % 16 ≤ 4 ∧ b / 16 ≤ 4) : (bval bs >>> 4 + bval bs) &&& bval (List.replicate bs.length 15) = bval (bs.map fun b => (b >>> 4 + b) &&& 15) := by
  induction bs with
  | nil => rfl
  | cons b bs ih =>
    simp only [List.length_cons, List.replicate_succ, bval, List.map_cons]
    have hb := h b (by simp)
    have hr : bval bs % 16 ≤ 4 := by
      cases bs with
      | nil => simp [bval]
      | cons c cs => have := (h c (by simp)).1; simp only [bval]; omega
    have e : (b + 256 * bval bs) >>> 4 + (b + 256 * bval bs) = (b >>> 4 + 16 * (bval bs % 16) + b) + 256 * (bval bs >>> 4 + bval bs) := by
      simp only [Nat.shiftRight_eq_div_pow]; omega
    have hlt : b >>> 4 + 16 * (bval bs % 16) + b < 256 := by simp only [Nat.shiftRight_eq_div_pow]; omega
    have e2 : (b >>> 4 + 16 * (bval bs % 16) + b) &&& 15 = (b >>> 4 + b) &&& 15 := by
      rw [show (15 : Nat) = 2 ^ 4 - 1 from rfl, Nat.and_two_pow_sub_one_eq_mod, Nat.and_two_pow_sub_one_eq_mod]; omega
    rw [e, and_cons256 hlt (by decide), e2, ih (fun x hx => h x (by simp [hx]))]
def pc (n x : Nat) : Nat := (List.range n).countP (fun i => x.testBit i)
def oc1 (b : Nat) : Nat := (b >>> 1 &&& 85) + (b &&& 85)
def oc2 (b : Nat) : Nat := (b >>> 2 &&& 51) + (b &&& 51)
def oc3 (b : Nat) : Nat := (b >>> 4 + b) &&& 15
theorem oc_bytes : ∀ b : Fin 256, oc1 b < 256 ∧ oc2 (oc1 b) % 16 ≤ 4 ∧ oc2 (oc1 b) / 16 ≤ 4 ∧ oc3 (oc2 (oc1 b)) = pc 8 b ∧ pc 8 b ≤ 8 := by decide +kernel
theorem shr_mask1 : ∀ b : Fin 256, ∀ r : Fin 2, ((b : Nat) >>> 1 + 128 * r) &&& 85 = (b : Nat) >>> 1 &&& 85 := by decide +kernel
theorem shr_mask2 : ∀ b : Fin 256, ∀ r : Fin 4, ((b : Nat) >>> 2 + 64 * r) &&& 51 = (b : Nat) >>> 2 &&& 51 := by decide +kernel
def toBytes : Nat → Nat → List Nat
  | 0, _ => []
  | n + 1, x => x % 256 :: toBytes n (x / 256)
theorem toBytes_len (n x : Nat) : (toBytes n x).length = n := by induction n generalizing x with | zero => rfl | succ n ih => simp [toBytes, ih]
theorem toBytes_lt (n x : Nat) : ∀ b ∈ toBytes n x, b < 256 := by
  induction n generalizing x with
  | zero => intro b hb; simp [toBytes] at hb
  | succ n ih =>
    intro b hb
    rcases List.mem_cons.1 hb with rfl | hb
    · omega
    · exact ih _ b hb
theorem toBytes_val (n x : Nat) (h : x < 256 ^ n) : bval (toBytes n x) = x := by
  induction n generalizing x with
  | zero => simp at h; subst h; rfl
  | succ n ih =>
    simp only [toBytes, bval]
    rw [ih (x / 256) (by rw [Nat.pow_succ] at h; omega)]; omega
theorem pc_cons (n b y : Nat) (hb : b < 256) : pc (8 + n) (b + 256 * y) = pc 8 b + pc n y := by
  unfold pc
  rw [List.range_add, List.countP_append, List.countP_map]
  have e1 : b + 256 * y = 2 ^ 8 * y + b := by omega
  congr 1
  · refine List.countP_congr fun i hi => ?_
    rw [e1, Nat.testBit_two_pow_mul_add _ hb, if_pos (List.mem_range.1 hi)]
  · refine List.countP_congr fun i hi => ?_
    simp only [Function.comp]
    rw [e1, Nat.testBit_two_pow_mul_add _ hb, if_neg (by omega), show 8 + i - 8 = i by omega]
theorem pc_bval (bs : List Nat) (h : ∀ b ∈ bs, b < 256) : pc (8 * bs.length) (bval bs) = (bs.map (pc 8)).sum := by
  induction bs with
  | nil => rfl
  | cons b bs ih =>
    simp only [List.length_cons, bval, List.map_cons, List.sum_cons]
    rw [show 8 * (bs.length + 1) = 8 + 8 * bs.length by omega, pc_cons _ _ _ (h b (by simp)), ih (fun x hx => h x (by simp [hx]))]
def onesC (x : Nat) : Nat :=
  let a := (x >>> 1 &&& 6148914691236517205) + (x &&& 6148914691236517205)
  let b := (a >>> 2 &&& 3689348814741910323) + (a &&& 3689348814741910323)
  let c := (b >>> 4 + b) &&& 1085102592571150095
  let d := c + c >>> 8
  let e := d + d >>> 16
  let f := e + e >>> 32
  f % 128
theorem dig_add (x y u v : Nat) : (x + 256 * u) + (y + 256 * v) = (x + y) + 256 * (u + v) := by omega
theorem dig_div1 {x u : Nat} (h : x < 256) : (x + 256 * u) / 256 = u := by omega
theorem dig_div2 {x y u : Nat} (h : x < 256) (h2 : y < 256) : (x + 256 * (y + 256 * u)) / 65536 = u := by omega
theorem dig_div4 {x y z w u : Nat} (h : x < 256) (h2 : y < 256) (h3 : z < 256) (h4 : w < 256) : (x + 256 * (y + 256 * (z + 256 * (w + 256 * u)))) / 4294967296 = u := by omega
theorem dig_mod {x u n : Nat} (h : x = n) (h1 : x < 128) : (x + 256 * u) % 128 = n := by omega
theorem fold8 {a b c d e f g h : Nat} (ha : a ≤ 8) (hb : b ≤ 8) (hc : c ≤ 8) (hd : d ≤ 8) (he : e ≤ 8) (hf : f ≤ 8) (hg : g ≤ 8) (hh : h ≤ 8) :
    (a + 256 * (b + 256 * (c + 256 * (d + 256 * (e + 256 * (f + 256 * (g + 256 * (h + 256 * 0))))))) + (a + 256 * (b + 256 * (c + 256 * (d + 256 * (e + 256 * (f + 256 * (g + 256 * (h + 256 * 0)))))))) / 256 + (a + 256 * (b + 256 * (c + 256 * (d + 256 * (e + 256 * (f + 256 * (g + 256 * (h + 256 * 0))))))) + (a + 256 * (b + 256 * (c + 256 * (d + 256 * (e + 256 * (f + 256 * (g + 256 * (h + 256 * 0)))))))) / 256) / 65536 +
      (a + 256 * (b + 256 * (c + 256 * (d + 256 * (e + 256 * (f + 256 * (g + 256 * (h + 256 * 0))))))) + (a + 256 * (b + 256 * (c + 256 * (d + 256 * (e + 256 * (f + 256 * (g + 256 * (h + 256 * 0)))))))) / 256 + (a + 256 * (b + 256 * (c + 256 * (d + 256 * (e + 256 * (f + 256 * (g + 256 * (h + 256 * 0))))))) + (a + 256 * (b + 256 * (c + 256 * (d + 256 * (e + 256 * (f + 256 * (g + 256 * (h + 256 * 0)))))))) / 256) / 65536) / 4294967296) % 128 = a + (b + (c + (d + (e + (f + (g + (h + 0))))))) := by
  rw [dig_div1 (by omega)]
  simp only [dig_add]
  rw [dig_div2 (by omega) (by omega)]
  simp only [dig_add]
  rw [dig_div4 (by omega) (by omega) (by omega) (by omega)]
  simp only [dig_add]
  exact dig_mod (by omega) (by omega)
theorem onesC_eq {x : Nat} (hx : x < 18446744073709551616) : onesC x = pc 64 x := by
  obtain ⟨bs, hbs⟩ : ∃ bs, bs = toBytes 8 x := ⟨_, rfl⟩
  have hl : bs.length = 8 := by rw [hbs, toBytes_len]
  have hlt : ∀ b ∈ bs, b < 256 := by rw [hbs]; exact toBytes_lt 8 x
  have hv : bval bs = x := by rw [hbs]; exact toBytes_val 8 x (by simpa using hx)
  have m0 : bval (List.replicate bs.length 85) = 6148914691236517205 := by rw [hl]; rfl
  have f1 : ∀ b : Nat, b < 256 → oc1 b < 256 ∧ oc2 (oc1 b) % 16 ≤ 4 ∧ oc2 (oc1 b) / 16 ≤ 4 ∧ oc3 (oc2 (oc1 b)) = pc 8 b ∧ pc 8 b ≤ 8 := fun b hb => oc_bytes ⟨b, hb⟩
  have s1 : (x >>> 1 &&& 6148914691236517205) + (x &&& 6148914691236517205) = bval (bs.map oc1) := by
    rw [← m0, ← hv, bval_shr (by decide) (by decide) (fun b r hb hr => shr_mask1 ⟨b, hb⟩ ⟨r, hr⟩) hlt, bval_and (by decide) hlt, bval_add]; rfl
  have l1 : (bs.map oc1).length = 8 := by rw [List.length_map, hl]
  have lt1 : ∀ b ∈ bs.map oc1, b < 256 := by
    intro b hb
    obtain ⟨c, hc, rfl⟩ := List.mem_map.1 hb
    exact (f1 c (hlt c hc)).1
  have m1 : bval (List.replicate (bs.map oc1).length 51) = 3689348814741910323 := by rw [l1]; rfl
  have s2 : (bval (bs.map oc1) >>> 2 &&& 3689348814741910323) + (bval (bs.map oc1) &&& 3689348814741910323) = bval ((bs.map oc1).map oc2) := by
    rw [← m1, bval_shr (by decide) (by decide) (fun b r hb hr => shr_mask2 ⟨b, hb⟩ ⟨r, hr⟩) lt1, bval_and (by decide) lt1, bval_add]; rfl
  have l2 : ((bs.map oc1).map oc2).length = 8 := by rw [List.length_map, l1]
  have m2 : bval (List.replicate ((bs.map oc1).map oc2).length 15) = 1085102592571150095 := by rw [l2]; rfl
  have n2 : ∀ b ∈ (bs.map oc1).map oc2, b % 16 ≤ 4 ∧ b / 16 ≤ 4 := by
    intro b hb
    obtain ⟨c, hc, rfl⟩ := List.mem_map.1 hb
    obtain ⟨d, hd, rfl⟩ := List.mem_map.1 hc
    exact ⟨(f1 d (hlt d hd)).2.1, (f1 d (hlt d hd)).2.2.1⟩
  have s3 : (bval ((bs.map oc1).map oc2) >>> 4 + bval ((bs.map oc1).map oc2)) &&& 1085102592571150095 = bval (((bs.map oc1).map oc2).map oc3) := by
    rw [← m2, bval_nib n2]; rfl
  have s4 : ((bs.map oc1).map oc2).map oc3 = bs.map (pc 8) := by
    rw [List.map_map, List.map_map]
    refine List.map_congr_left fun b hb => ?_
    exact (f1 b (hlt b hb)).2.2.2.1
  have h8 : ∀ b ∈ bs.map (pc 8), b ≤ 8 := by
    intro b hb
    obtain ⟨c, hc, rfl⟩ := List.mem_map.1 hb
    exact (f1 c (hlt c hc)).2.2.2.2
  have hp : pc 64 x = (bs.map (pc 8)).sum := by rw [← hv, ← pc_bval bs hlt, hl]
  unfold onesC
  simp only []
  rw [s1, s2, s3, s4, hp]
  obtain ⟨cs, hcs⟩ : ∃ cs, cs = bs.map (pc 8) := ⟨_, rfl⟩
  have hcl : cs.length = 8 := by rw [hcs, List.length_map, hl]
  rw [← hcs] at h8 ⊢
  clear s1 s2 s3 s4 hcs hp m0 m1 m2 n2
  match cs, hcl with
  | [a, b, c, d, e, f, g, h], _ =>
    simp only [List.mem_cons, List.not_mem_nil, or_false, forall_eq_or_imp, forall_eq] at h8
    obtain ⟨ha, hb, hc, hd, he, hf, hg, hh⟩ := h8
    simp only [bval, List.sum_cons, List.sum_nil, Nat.shiftRight_eq_div_pow, Nat.reducePow]
    exact fold8 ha hb hc hd he hf hg hh

/-! ### words of 64 bits: what is done to them -/
def shrW (w k : Int) : Int := ((w.toNat >>> k.toNat : Nat) : Int)
def shlW (w k : Int) : Int := (((w.toNat <<< k.toNat) % 18446744073709551616 : Nat) : Int)
def orW (a b : Int) : Int := ((a.toNat ||| b.toNat : Nat) : Int)
def andW (a b : Int) : Int := ((a.toNat &&& b.toNat : Nat) : Int)
def anW (a b : Int) : Int := ((a.toNat &&& (18446744073709551615 ^^^ b.toNat) : Nat) : Int)
def U64 (w : Int) : Prop := 0 ≤ w ∧ w < 18446744073709551616
theorem U64.nat {w : Int} (h : U64 w) : ∃ n : Nat, w = n ∧ n < 18446744073709551616 := ⟨w.toNat, by have := h.1; omega, by have := h.2; omega⟩
theorem shr_lt {n k : Nat} {b : Nat} (h : n < b) : n >>> k < b := Nat.lt_of_le_of_lt (Nat.shiftRight_le n k) h
theorem u_shr {w k : Int} (h : U64 w) : U64 (shrW w k) := by
  obtain ⟨n, rfl, hn⟩ := h.nat
  have h2 := shr_lt (k := k.toNat) hn
  unfold shrW U64
  rw [Int.toNat_natCast]
  generalize n >>> k.toNat = z at h2 ⊢
  omega
theorem u_shl {w k : Int} : U64 (shlW w k) := by constructor <;> simp only [shlW] <;> omega
theorem u_or {a b : Int} (ha : U64 a) (hb : U64 b) : U64 (orW a b) := by
  obtain ⟨m, rfl, hm⟩ := ha.nat; obtain ⟨n, rfl, hn⟩ := hb.nat
  have : m ||| n < 2 ^ 64 := Nat.or_lt_two_pow (by omega) (by omega)
  constructor <;> simp only [orW, Int.toNat_natCast] <;> omega
theorem u_an {a b : Int} (ha : U64 a) (hb : U64 b) : U64 (anW a b) := by
  obtain ⟨m, rfl, hm⟩ := ha.nat; obtain ⟨n, rfl, hn⟩ := hb.nat
  have : m &&& (18446744073709551615 ^^^ n) < 2 ^ 64 := Nat.and_lt_two_pow _ (Nat.xor_lt_two_pow (by omega) (by omega))
  constructor <;> simp only [anW, Int.toNat_natCast] <;> omega
theorem u_lit (n : Nat) (h : n < 18446744073709551616) : U64 (n : Int) := ⟨by omega, by omega⟩
section
variable {P : Program} {a : Act} {W : World} {d : Nat} {ty : TypeId} {ps : String} {af : Array Edge} {gd : Option (Nat × Bool)} {dst : Option Nat} {t t2 : TypeId} {x y : Operand}
theorem eqGuard_bits (op : BinOp) (h : op = .and ∨ op = .or ∨ op = .andNot ∨ op = .shl ∨ op = .shr ∨ op = .quo) (t : TypeId) (p q : Operand) (v u : Value) : (eqGuard op t p q v u : Sem Unit) = pure () := by rcases h with rfl | rfl | rfl | rfl | rfl | rfl <;> rfl
theorem bits_an_u64_nat (a b : Nat) (ha : a < 18446744073709551616) (hb : b < 18446744073709551616) : bits .andNot .u64 (a : Int) (b : Int) = ((a &&& (18446744073709551615 ^^^ b) : Nat) : Int) := by
  have hx : a &&& (18446744073709551615 ^^^ b) < 2 ^ 64 := Nat.and_lt_two_pow _ (Nat.xor_lt_two_pow (by omega) (by omega))
  have h1 : (BitVec.ofInt 64 (a : Int)).toNat = a := by
    rw [BitVec.ofInt_natCast, BitVec.toNat_ofNat]; exact Nat.mod_eq_of_lt (by omega)
  have h2 : (BitVec.ofInt 64 (b : Int)).toNat = b := by
    rw [BitVec.ofInt_natCast, BitVec.toNat_ofNat]; exact Nat.mod_eq_of_lt (by omega)
  have h3 : (~~~ (BitVec.ofInt 64 (b : Int))).toNat = 18446744073709551615 ^^^ b := by
    have hb2 : b < 2 ^ 64 := by omega
    have e : (18446744073709551615 : Nat) = 2 ^ 64 - 1 := rfl
    rw [BitVec.toNat_not, h2, e]
    apply Nat.eq_of_testBit_eq
    intro i
    have e9 : 2 ^ 64 - 1 - b = 2 ^ 64 - (b + 1) := by omega
    rw [e9, Nat.testBit_two_pow_sub_succ hb2, Nat.testBit_xor, Nat.testBit_two_pow_sub_one]
    by_cases hi : i < 64
    · simp [hi]
    · simp [hi, Nat.testBit_lt_two_pow (Nat.lt_of_lt_of_le hb2 (Nat.pow_le_pow_right (by decide) (Nat.le_of_not_lt hi)))]
  show IntKind.u64.wrap ((BitVec.ofInt 64 (a : Int) &&& ~~~ BitVec.ofInt 64 (b : Int)).toNat : Int) = _
  rw [BitVec.toNat_and, h1, h3, IntKind.wrap_u64]
  omega
theorem R_and {i j : Int} (hx : a.eval x = .int .u64 i) (hy : a.eval y = .int .u64 j) (hi : U64 i) (hj : U64 j) : (execOp a.eval ⟨dst, .binOp .and t x y t2, ty, ps, af, gd⟩).run P W = .ok (.value (.int .u64 (andW i j))) W := by
  obtain ⟨m, rfl, hm⟩ := hi.nat; obtain ⟨n, rfl, hn⟩ := hj.nat
  have h : Op.intBits .and .u64 (m : Int) (n : Int) = pure (.int .u64 (andW m n)) := by
    show pure (Value.int .u64 (bits .and .u64 (m : Int) (n : Int))) = _
    rw [bits_and_u64_nat m n hm hn]; rfl
  have h2 : binOp .and t (.int .u64 (m : Int)) (.int .u64 (n : Int)) = Op.intBits .and .u64 m n := rfl
  simp [execOp, hx, hy, eqGuard_bits, h2, h]
theorem R_or {i j : Int} (hx : a.eval x = .int .u64 i) (hy : a.eval y = .int .u64 j) (hi : U64 i) (hj : U64 j) : (execOp a.eval ⟨dst, .binOp .or t x y t2, ty, ps, af, gd⟩).run P W = .ok (.value (.int .u64 (orW i j))) W := by
  obtain ⟨m, rfl, hm⟩ := hi.nat; obtain ⟨n, rfl, hn⟩ := hj.nat
  have h : Op.intBits .or .u64 (m : Int) (n : Int) = pure (.int .u64 (orW m n)) := by
    show pure (Value.int .u64 (bits .or .u64 (m : Int) (n : Int))) = _
    rw [bits_or_u64_nat m n hm hn]; rfl
  have h2 : binOp .or t (.int .u64 (m : Int)) (.int .u64 (n : Int)) = Op.intBits .or .u64 m n := rfl
  simp [execOp, hx, hy, eqGuard_bits, h2, h]
theorem R_an {i j : Int} (hx : a.eval x = .int .u64 i) (hy : a.eval y = .int .u64 j) (hi : U64 i) (hj : U64 j) : (execOp a.eval ⟨dst, .binOp .andNot t x y t2, ty, ps, af, gd⟩).run P W = .ok (.value (.int .u64 (anW i j))) W := by
  obtain ⟨m, rfl, hm⟩ := hi.nat; obtain ⟨n, rfl, hn⟩ := hj.nat
  have h : Op.intBits .andNot .u64 (m : Int) (n : Int) = pure (.int .u64 (anW m n)) := by
    show pure (Value.int .u64 (bits .andNot .u64 (m : Int) (n : Int))) = _
    rw [bits_an_u64_nat m n hm hn]; rfl
  have h2 : binOp .andNot t (.int .u64 (m : Int)) (.int .u64 (n : Int)) = Op.intBits .andNot .u64 m n := rfl
  simp [execOp, hx, hy, eqGuard_bits, h2, h]
theorem R_shr {i j : Int} {k2 : IntKind} (hx : a.eval x = .int .u64 i) (hy : a.eval y = .int k2 j) (hi : U64 i) (h0 : 0 ≤ j) (h1 : j < 64) : (execOp a.eval ⟨dst, .binOp .shr t x y t2, ty, ps, af, gd⟩).run P W = .ok (.value (.int .u64 (shrW i j))) W := by
  obtain ⟨m, rfl, hm⟩ := hi.nat; obtain ⟨k, rfl⟩ := Int.eq_ofNat_of_zero_le h0
  have e3 : (m : Int) / (2 ^ k) = shrW m k := by
    unfold shrW
    rw [Int.toNat_natCast, Int.toNat_natCast, Nat.shiftRight_eq_div_pow]
    norm_cast
  have e2 : (m : Int).fdiv (2 ^ k) = shrW m k := by rw [Int.fdiv_eq_ediv_of_nonneg _ (Int.le_of_lt (Int.pow_pos (by decide))), e3]
  have h : Op.shift .shr .u64 (m : Int) k2 (k : Int) = pure (.int .u64 (shrW m k)) := by
    unfold Op.shift
    rw [if_neg (by omega)]
    have e : min ((k : Int).toNat) IntKind.u64.bits = k := by show min ((k : Int).toNat) 64 = k; omega
    simp only [e]
    rw [e2]
  have h2 : binOp .shr t (.int .u64 (m : Int)) (.int k2 (k : Int)) = Op.shift .shr .u64 m k2 k := rfl
  simp [execOp, hx, hy, eqGuard_bits, h2, h, e2, e3]
theorem R_shl {i j : Int} {k2 : IntKind} (hx : a.eval x = .int .u64 i) (hy : a.eval y = .int k2 j) (hi : U64 i) (h0 : 0 ≤ j) (h1 : j < 64) : (execOp a.eval ⟨dst, .binOp .shl t x y t2, ty, ps, af, gd⟩).run P W = .ok (.value (.int .u64 (shlW i j))) W := by
  obtain ⟨m, rfl, hm⟩ := hi.nat; obtain ⟨k, rfl⟩ := Int.eq_ofNat_of_zero_le h0
  have e2 : IntKind.u64.wrap ((m : Int) * 2 ^ k) = shlW m k := by
    unfold shlW
    rw [Int.toNat_natCast, Int.toNat_natCast, Nat.shiftLeft_eq, IntKind.wrap_u64, Int.natCast_emod, Int.natCast_mul, Int.natCast_pow]
    rfl
  have h : Op.shift .shl .u64 (m : Int) k2 (k : Int) = pure (.int .u64 (shlW m k)) := by
    unfold Op.shift
    rw [if_neg (by omega)]
    have e : min ((k : Int).toNat) IntKind.u64.bits = k := by show min ((k : Int).toNat) 64 = k; omega
    simp only [e]
    rw [e2]
  have h2 : binOp .shl t (.int .u64 (m : Int)) (.int k2 (k : Int)) = Op.shift .shl .u64 m k2 k := rfl
  simp [execOp, hx, hy, eqGuard_bits, h2, h, e2]
theorem R_quo {i j : Int} (hx : a.eval x = .int .i64 i) (hy : a.eval y = .int .i64 j) (h0 : 0 ≤ i) (h1 : i ≤ 9223372036854775807) (hj : 0 < j) : (execOp a.eval ⟨dst, .binOp .quo t x y t2, ty, ps, af, gd⟩).run P W = .ok (.value (.int .i64 (i / j))) W := by
  have e : i.tdiv j = i / j := Int.tdiv_eq_ediv_of_nonneg h0
  have h3 : 0 ≤ i / j := Int.ediv_nonneg h0 (by omega)
  have h4 : i / j ≤ i := Int.ediv_le_self _ h0
  have hd : Op.intDiv .quo .i64 i j = pure (.int .i64 (i / j)) := by unfold Op.intDiv; rw [if_neg (by omega), e]; simp only [IntKind.wrap_i64]; congr 2; omega
  have h2 : binOp .quo t (.int .i64 i) (.int .i64 j) = Op.intDiv .quo .i64 i j := rfl
  simp [execOp, hx, hy, eqGuard_bits, h2, hd]
theorem R_rem2 {i j : Int} (hx : a.eval x = .int .i64 i) (hy : a.eval y = .int .i64 j) (h0 : 0 ≤ i) (h1 : i ≤ 9223372036854775807) (hj : 0 < j) : (execOp a.eval ⟨dst, .binOp .rem t x y t2, ty, ps, af, gd⟩).run P W = .ok (.value (.int .i64 (i % j))) W := by
  have e : i.tmod j = i % j := Int.tmod_eq_emod_of_nonneg h0
  have hd : Op.intDiv .rem .i64 i j = pure (.int .i64 (i % j)) := by unfold Op.intDiv; rw [if_neg (by omega), e]
  have h2 : binOp .rem t (.int .i64 i) (.int .i64 j) = Op.intDiv .rem .i64 i j := rfl
  simp [execOp, hx, hy, eqGuard_rem, h2, hd]
theorem R_shrN {m k : Nat} {k2 : IntKind} (hx : a.eval x = .int .u64 (m : Int)) (hy : a.eval y = .int k2 (k : Int)) (hm : m < 18446744073709551616) (hk : k < 64) : (execOp a.eval ⟨dst, .binOp .shr t x y t2, ty, ps, af, gd⟩).run P W = .ok (.value (.int .u64 ((m >>> k : Nat) : Int))) W := by
  have h := R_shr (P := P) (W := W) (ty := ty) (ps := ps) (af := af) (gd := gd) (dst := dst) (t := t) (t2 := t2) hx hy (u_lit m hm) (by omega) (by omega)
  have e : shrW m k = ((m >>> k : Nat) : Int) := by unfold shrW; rw [Int.toNat_natCast, Int.toNat_natCast]
  rw [h, e]
theorem R_andN {m k : Nat} (hx : a.eval x = .int .u64 (m : Int)) (hy : a.eval y = .int .u64 (k : Int)) (hm : m < 18446744073709551616) (hk : k < 18446744073709551616) : (execOp a.eval ⟨dst, .binOp .and t x y t2, ty, ps, af, gd⟩).run P W = .ok (.value (.int .u64 ((m &&& k : Nat) : Int))) W := by
  have h := R_and (P := P) (W := W) (ty := ty) (ps := ps) (af := af) (gd := gd) (dst := dst) (t := t) (t2 := t2) hx hy (u_lit m hm) (u_lit k hk)
  have e : andW m k = ((m &&& k : Nat) : Int) := by unfold andW; rw [Int.toNat_natCast, Int.toNat_natCast]
  rw [h, e]
theorem R_addN {m k : Nat} (hx : a.eval x = .int .u64 (m : Int)) (hy : a.eval y = .int .u64 (k : Int)) (hm : m + k < 18446744073709551616) : (execOp a.eval ⟨dst, .binOp .add t x y t2, ty, ps, af, gd⟩).run P W = .ok (.value (.int .u64 ((m + k : Nat) : Int))) W := by
  have h2 : binOp .add t (.int .u64 (m : Int)) (.int .u64 (k : Int)) = Op.intArith .add .u64 m k := rfl
  have e : IntKind.u64.wrap ((m : Int) + (k : Int)) = ((m + k : Nat) : Int) := by rw [IntKind.wrap_u64]; omega
  simp [execOp, hx, hy, eqGuard, h2, Op.intArith, e]
theorem R_and127 {i : Int} (hx : a.eval x = .int .i64 i) (hy : a.eval y = .int .i64 127) (h0 : 0 ≤ i) (h1 : i < 9223372036854775808) : (execOp a.eval ⟨dst, .binOp .and t x y t2, ty, ps, af, gd⟩).run P W = .ok (.value (.int .i64 (i % 128))) W := by
  have h := bits_mask .i64 63 (by decide) (fun n h0 h1 => by rw [IntKind.wrap_i64]; omega) 7 (by decide) i h0 (by simpa using h1)
  have h3 : Op.intBits .and .i64 i 127 = pure (.int .i64 (i % 128)) := by
    show pure (Value.int .i64 (bits .and .i64 i 127)) = _
    have h4 : bits .and .i64 i 127 = i % 128 := by simpa using h
    rw [h4]
  have h2 : binOp .and t (.int .i64 i) (.int .i64 127) = Op.intBits .and .i64 i 127 := rfl
  simp [execOp, hx, hy, eqGuard_bits, h2, h3]
end
attribute [irreducible] shrW shlW orW andW anW
/-! ### sets as rows of words -/
def tb (w k : Int) : Bool := w.toNat.testBit k.toNat
def bitI (ws : List Int) (i : Int) : Bool := tb (rdI ws (i / 64)) (i % 64)
theorem tb_shr {w k j : Int} (h0 : 0 ≤ k) (h1 : 0 ≤ j) : tb (shrW w k) j = tb w (k + j) := by
  unfold tb shrW
  rw [Int.toNat_natCast, Nat.testBit_shiftRight, Int.toNat_add h0 h1]
theorem tb_or {a b j : Int} : tb (orW a b) j = (tb a j || tb b j) := by
  unfold tb orW
  rw [Int.toNat_natCast, Nat.testBit_or]
theorem tb_an {a b j : Int} (h0 : 0 ≤ j) (h1 : j < 64) : tb (anW a b) j = (tb a j && !tb b j) := by
  unfold tb anW
  rw [Int.toNat_natCast, Nat.testBit_and, Nat.testBit_xor, show (18446744073709551615 : Nat) = 2 ^ 64 - 1 from rfl, Nat.testBit_two_pow_sub_one, decide_eq_true (by omega : j.toNat < 64), Bool.true_xor]
theorem tb_shl {w k j : Int} (h0 : 0 ≤ k) (hj : 0 ≤ j) (h1 : j < 64) : tb (shlW w k) j = (decide (k ≤ j) && tb w (j - k)) := by
  unfold tb shlW
  rw [Int.toNat_natCast, show (18446744073709551616 : Nat) = 2 ^ 64 from rfl, Nat.testBit_mod_two_pow, Nat.testBit_shiftLeft, decide_eq_true (by omega : j.toNat < 64), Bool.true_and]
  by_cases h : k ≤ j
  · rw [decide_eq_true h, decide_eq_true (by omega : j.toNat ≥ k.toNat), show (j - k).toNat = j.toNat - k.toNat by omega]
  · rw [decide_eq_false h, decide_eq_false (by omega : ¬ j.toNat ≥ k.toNat), Bool.false_and, Bool.false_and]
theorem tb_one {j : Int} (h0 : 0 ≤ j) : tb 1 j = decide (j = 0) := by
  unfold tb
  rw [show (1 : Int).toNat = 1 from rfl]
  by_cases h : j = 0
  · subst h; rfl
  · rw [decide_eq_false h]
    cases e : Nat.testBit 1 j.toNat with
    | false => rfl
    | true => have := Nat.testBit_one_eq_true_iff_self_eq_zero.1 e; omega
theorem tb_bit {k j : Int} (h0 : 0 ≤ k) (hj : 0 ≤ j) (h1 : j < 64) : tb (shlW 1 k) j = decide (j = k) := by
  rw [tb_shl h0 hj h1]
  by_cases h : k ≤ j
  · rw [decide_eq_true h, Bool.true_and, tb_one (by omega)]
    by_cases h2 : j = k
    · rw [decide_eq_true h2, decide_eq_true (by omega)]
    · rw [decide_eq_false h2, decide_eq_false (by omega)]
  · rw [decide_eq_false h, Bool.false_and, decide_eq_false (by omega)]
theorem and_one {w : Int} (h : U64 w) : andW w 1 = if tb w 0 then 1 else 0 := by
  obtain ⟨n, rfl, hn⟩ := h.nat
  unfold andW tb
  rw [Int.toNat_natCast, show (1 : Int).toNat = 1 from rfl, show (0 : Int).toNat = 0 from rfl, Nat.and_one_is_mod, Nat.testBit_zero]
  by_cases h2 : n % 2 = 1
  · rw [decide_eq_true h2, h2]; rfl
  · rw [decide_eq_false h2, show n % 2 = 0 by omega]; rfl
theorem shr_one {w k : Int} (h : U64 w) (h0 : 0 ≤ k) : andW (shrW w k) 1 = if tb w k then 1 else 0 := by
  rw [and_one (u_shr h), tb_shr h0 (Int.le_refl 0), Int.add_zero]
/-- Words of the same bits are the same. -/
theorem word_ext {a b : Int} (ha : U64 a) (hb : U64 b) (h : ∀ j, 0 ≤ j → j < 64 → tb a j = tb b j) : a = b := by
  obtain ⟨m, rfl, hm⟩ := ha.nat; obtain ⟨n, rfl, hn⟩ := hb.nat
  congr 1
  apply Nat.eq_of_testBit_eq
  intro i
  by_cases hi : i < 64
  · have := h (i : Int) (by omega) (by omega)
    simpa [tb] using this
  · have h1 : (2 : Nat) ^ 64 ≤ 2 ^ i := Nat.pow_le_pow_right (by decide) (by omega)
    rw [Nat.testBit_lt_two_pow (by omega), Nat.testBit_lt_two_pow (by omega)]
def ins (i : Int) : List Int → List Int
  | [] => [i]
  | x :: xs => if i < x then i :: x :: xs else x :: ins i xs
theorem mem_ins {i y : Int} {L : List Int} : y ∈ ins i L ↔ y = i ∨ y ∈ L := by
  induction L with
  | nil => simp [ins]
  | cons x xs ih =>
    unfold ins
    split
    · simp
    · simp only [List.mem_cons, ih]; constructor <;> (rintro (h | h | h) <;> simp [h])
theorem ins_sorted {i : Int} {L : List Int} (h : L.Pairwise (· < ·)) (hn : i ∉ L) : (ins i L).Pairwise (· < ·) := by
  induction L with
  | nil => simp [ins]
  | cons x xs ih =>
    have hx := List.pairwise_cons.1 h
    unfold ins
    split
    · rename_i hlt
      refine List.pairwise_cons.2 ⟨fun y hy => ?_, h⟩
      rcases List.mem_cons.1 hy with rfl | hy
      · exact hlt
      · have := hx.1 y hy; omega
    · rename_i hge
      have hne : i ≠ x := fun e => hn (by simp [e])
      refine List.pairwise_cons.2 ⟨fun y hy => ?_, ih hx.2 (fun h2 => hn (by simp [h2]))⟩
      rcases mem_ins.1 hy with rfl | hy
      · omega
      · exact hx.1 y hy
/-- Rising rows of the same members are the same. -/
theorem sorted_ext {L M : List Int} (hL : L.Pairwise (· < ·)) (hM : M.Pairwise (· < ·)) (h : ∀ x, x ∈ L ↔ x ∈ M) : L = M := by
  induction L generalizing M with
  | nil => cases M with
    | nil => rfl
    | cons y ys => have := (h y).2 (by simp); simp at this
  | cons x xs ih =>
    cases M with
    | nil => have := (h x).1 (by simp); simp at this
    | cons y ys =>
      have hx := List.pairwise_cons.1 hL; have hy := List.pairwise_cons.1 hM
      have e : x = y := by
        rcases List.mem_cons.1 ((h x).1 (by simp)) with e | h1
        · exact e
        · rcases List.mem_cons.1 ((h y).2 (by simp)) with e | h2
          · exact e.symm
          · have := hy.1 x h1; have := hx.1 y h2; omega
      subst e
      congr 1
      refine ih hx.2 hy.2 fun z => ?_
      constructor
      · intro hz
        rcases List.mem_cons.1 ((h z).1 (by simp [hz])) with rfl | h1
        · have := hx.1 z hz; omega
        · exact h1
      · intro hz
        rcases List.mem_cons.1 ((h z).2 (by simp [hz])) with rfl | h1
        · have := hy.1 z hz; omega
        · exact h1
theorem rdW_set {xs : List Int} {i x v : Int} (h0 : 0 ≤ i) (h1 : i < xs.length) (hx : 0 ≤ x) : rdI (xs.set i.toNat v) x = if x = i then v else rdI xs x := by
  unfold rdI
  rw [List.getD_eq_getElem?_getD, List.getD_eq_getElem?_getD, List.getElem?_set]
  by_cases e : x = i
  · subst e
    rw [if_pos rfl, if_pos rfl, if_pos (by omega)]; rfl
  · rw [if_neg e, if_neg (by omega)]
structure Rep (ws : List Int) (n : Int) (L : List Int) : Prop where
  len : (ws.length : Int) = (n + 63) / 64
  n0 : 0 ≤ n
  rng : ∀ w ∈ ws, U64 w
  mem : ∀ i : Int, 0 ≤ i → i < 64 * ws.length → (bitI ws i = true ↔ i ∈ L)
  srt : L.Pairwise (· < ·)
  lim : ∀ x ∈ L, 0 ≤ x ∧ x < n
namespace Rep
variable {ws vs : List Int} {n i : Int} {L M : List Int}
theorem idx (h : Rep ws n L) (h0 : 0 ≤ i) (h1 : i < n) : 0 ≤ i / 64 ∧ i / 64 < ws.length ∧ 0 ≤ i % 64 ∧ i % 64 < 64 := by have := h.len; omega
theorem rd (h : Rep ws n L) {k : Int} (h0 : 0 ≤ k) (h1 : k < ws.length) : U64 (rdI ws k) := h.rng _ (List.mem_of_getElem? (rdI_eq h0 h1))
theorem rd_at (h : Rep ws n L) (h0 : 0 ≤ i) (h1 : i < n) : U64 (rdI ws (i / 64)) := h.rd (h.idx h0 h1).1 (h.idx h0 h1).2.1
theorem bit (h : Rep ws n L) (h0 : 0 ≤ i) (h1 : i < n) : bitI ws i = true ↔ i ∈ L := h.mem i h0 (by have := h.len; omega)
theorem has_t (h : Rep ws n L) (hi : i ∈ L) : andW (shrW (rdI ws (i / 64)) (i % 64)) 1 = 1 := by
  have hl := h.lim i hi
  rw [shr_one (h.rd_at hl.1 hl.2) (by omega), if_pos (show tb _ _ = true from (h.bit hl.1 hl.2).2 hi)]
theorem has_f (h : Rep ws n L) (h0 : 0 ≤ i) (h1 : i < n) (hi : i ∉ L) : ¬ andW (shrW (rdI ws (i / 64)) (i % 64)) 1 = 1 := by
  rw [shr_one (h.rd_at h0 h1) (by omega), if_neg (fun hb : tb _ _ = true => hi ((h.bit h0 h1).1 hb))]; decide
theorem out (h : Rep ws n L) (hi : i < 0 ∨ n ≤ i) : i ∉ L := fun hm => by have := h.lim i hm; omega
theorem set_ (h : Rep ws n L) {w' : Int} (h0 : 0 ≤ i) (h1 : i < n) (hw : U64 w') (hs : M.Pairwise (· < ·)) (hl : ∀ x ∈ M, 0 ≤ x ∧ x < n)
    (hin : ∀ j, 0 ≤ j → j < 64 → (tb w' j = true ↔ 64 * (i / 64) + j ∈ M)) (hout : ∀ x, x / 64 ≠ i / 64 → (x ∈ M ↔ x ∈ L)) : Rep (ws.set (i / 64).toNat w') n M := by
  have hi := h.idx h0 h1
  refine ⟨by rw [List.length_set]; exact h.len, h.n0, fun w hw' => ?_, fun x hx0 hx1 => ?_, hs, hl⟩
  · rcases List.mem_or_eq_of_mem_set hw' with hw' | rfl
    · exact h.rng w hw'
    · exact hw
  · rw [List.length_set] at hx1
    unfold bitI
    by_cases e : x / 64 = i / 64
    · rw [e, rdW_set hi.1 hi.2.1 hi.1, if_pos rfl, hin (x % 64) (by omega) (by omega), show 64 * (i / 64) + x % 64 = x by omega]
    · rw [rdW_set hi.1 hi.2.1 (by omega), if_neg e]
      exact (h.mem x hx0 hx1).trans (hout x e).symm
theorem add (h : Rep ws n L) (h0 : 0 ≤ i) (h1 : i < n) (hn : i ∉ L) : Rep (ws.set (i / 64).toNat (orW (rdI ws (i / 64)) (shlW 1 (i % 64)))) n (ins i L) := by
  have hi := h.idx h0 h1
  refine h.set_ h0 h1 (u_or (h.rd_at h0 h1) u_shl) (ins_sorted h.srt hn) (fun x hx => ?_) (fun j hj0 hj1 => ?_) (fun x hx => ?_)
  · rcases mem_ins.1 hx with rfl | hx
    · exact ⟨h0, h1⟩
    · exact h.lim x hx
  · rw [tb_or, tb_bit hi.2.2.1 hj0 hj1, mem_ins, Bool.or_eq_true, decide_eq_true_eq]
    have hm := h.mem (64 * (i / 64) + j) (by omega) (by omega)
    unfold bitI at hm
    rw [show (64 * (i / 64) + j) / 64 = i / 64 by omega, show (64 * (i / 64) + j) % 64 = j by omega] at hm
    rw [hm]
    constructor
    · rintro (h2 | h2)
      · exact .inr h2
      · exact .inl (by omega)
    · rintro (h2 | h2)
      · exact .inr (by omega)
      · exact .inl h2
  · rw [mem_ins]
    constructor
    · rintro (rfl | h2)
      · exact absurd rfl hx
      · exact h2
    · exact .inr
end Rep
/-! ### how many, the next one, two sets -/
def cntW (ws : List Int) (k : Nat) : Nat := ((List.range k).map fun (j : Nat) => pc 64 (rdI ws (j : Int)).toNat).sum
theorem cntW_succ (ws : List Int) (k : Nat) : cntW ws (k + 1) = cntW ws k + pc 64 (rdI ws (k : Int)).toNat := by
  unfold cntW
  rw [List.range_succ, List.map_append, List.sum_append]; simp
theorem cntW_eq (ws : List Int) (k : Nat) : (List.range (64 * k)).countP (fun (i : Nat) => bitI ws (i : Int)) = cntW ws k := by
  induction k with
  | zero => rfl
  | succ k ih =>
    rw [cntW_succ, ← ih, show 64 * (k + 1) = 64 * k + 64 by omega, List.range_add, List.countP_append, List.countP_map]
    congr 1
    unfold pc
    refine List.countP_congr fun j hj => ?_
    have := List.mem_range.1 hj
    simp only [Function.comp, bitI, tb]
    rw [show (((64 * k + j : Nat) : Int) / 64) = (k : Int) by omega, show (((64 * k + j : Nat) : Int) % 64).toNat = j by omega]
theorem pc_le (n x : Nat) : pc n x ≤ n := by
  unfold pc
  have := List.countP_le_length (p := fun i => x.testBit i) (l := List.range n)
  rwa [List.length_range] at this
theorem cntW_le (ws : List Int) (k : Nat) : cntW ws k ≤ 64 * k := by
  induction k with
  | zero => exact Nat.le_refl _
  | succ k ih => rw [cntW_succ]; have := pc_le 64 (rdI ws (k : Int)).toNat; omega
namespace Rep
variable {ws vs : List Int} {n i : Int} {L M : List Int}
theorem lst (h : Rep ws n L) : L = ((List.range (64 * ws.length)).filter (fun (i : Nat) => bitI ws (i : Int))).map (fun (i : Nat) => (i : Int)) := by
  refine sorted_ext h.srt (List.pairwise_map.2 (((List.pairwise_lt_range).filter _).imp (fun hab => by omega))) fun x => ?_
  simp only [List.mem_map, List.mem_filter, List.mem_range]
  constructor
  · intro hx
    have hl := h.lim x hx
    have hlen := h.len
    refine ⟨x.toNat, ⟨by omega, ?_⟩, by omega⟩
    rw [show ((x.toNat : Nat) : Int) = x by omega]
    exact (h.bit hl.1 hl.2).2 hx
  · rintro ⟨j, ⟨h1, h2⟩, rfl⟩
    exact (h.mem (j : Int) (by omega) (by omega)).1 h2
theorem cnt (h : Rep ws n L) : cntW ws ws.length = L.length := by
  rw [← cntW_eq, List.countP_eq_length_filter]
  have := congrArg List.length h.lst
  rw [List.length_map] at this
  exact this.symm
theorem llen (h : Rep ws n L) : (L.length : Int) ≤ n + 63 := by
  have h1 := h.cnt; have h2 := cntW_le ws ws.length; have := h.len; omega
theorem inj (h : Rep ws n L) (h' : Rep ws n M) : L = M := by rw [h.lst, h'.lst]
end Rep
namespace Rep
variable {ws vs : List Int} {n i k w : Int} {L M : List Int}
end Rep
/-! ### ranges over functions -/
section
variable {P : Program} {ops : Array Oper} {Q : Exit → Act → World → Prop} {rest : List Oper} {D : Option Nat} {l : List Value} {W W' W0 : World} {M N : Nat → Prop} {L G : List Ent} {v : Value} {op : Op} {d : Nat} {ty : TypeId} {ps : String} {af : Array Edge} {gd : Option (Nat × Bool)} {ρ : Option Nat} {n B : Nat} {a : Act} {w : World} {e : Ent}
/-! a function that holds such a loop -/
end

/-- What the iterator reads. -/
structure DnI (b g c : Nat) (A : Option Addr) (ws : List Int) (n : Int) (W : World) : Prop where
  hb : W.cell? ⟨b, 0, none⟩ = some (.pointer (some ⟨g, 0, none⟩))
  h0 : W.cell? ⟨g, 0, none⟩ = some (.slice A ws.length c)
  h1 : W.cell? ⟨g, 1, none⟩ = some (.int .i64 n)
  hr : Rd W A (ci .u64 ws)
/-! ### sets joined -/
def addI (a : List Int) (x : Int) : List Int := if x ∈ a then a else ins x a
def uni (L M : List Int) : List Int := M.foldl addI L
theorem mem_addI {a : List Int} {x y : Int} : y ∈ addI a x ↔ y = x ∨ y ∈ a := by
  unfold addI; split
  · exact ⟨.inr, fun h => h.elim (fun e => by subst e; assumption) id⟩
  · exact mem_ins
theorem mem_uni {M : List Int} : ∀ {L : List Int} {y : Int}, y ∈ uni L M ↔ y ∈ L ∨ y ∈ M := by
  induction M with
  | nil => intro L y; simp [uni]
  | cons x M ih =>
    intro L y
    show y ∈ uni (addI L x) M ↔ _
    rw [ih, mem_addI, List.mem_cons]
    constructor
    · rintro ((h | h) | h) <;> simp [h]
    · rintro (h | h | h) <;> simp [h]
theorem addI_sorted {a : List Int} {x : Int} (h : a.Pairwise (· < ·)) : (addI a x).Pairwise (· < ·) := by
  unfold addI; split
  · exact h
  · exact ins_sorted h (by assumption)
theorem uni_sorted {M : List Int} : ∀ {L : List Int}, L.Pairwise (· < ·) → (uni L M).Pairwise (· < ·) := by
  induction M with
  | nil => intro L h; exact h
  | cons x M ih => intro L h; exact ih (addI_sorted h)
theorem or_zero {a b : Int} (ha : U64 a) (hb : U64 b) : orW a b = 0 ↔ a = 0 ∧ b = 0 := by
  constructor
  · intro h
    have hz : ∀ j, 0 ≤ j → j < 64 → (tb a j || tb b j) = false := fun j h0 h1 => by
      rw [← tb_or, h]; unfold tb; simp
    refine ⟨word_ext ha (u_lit 0 (by decide)) fun j h0 h1 => ?_, word_ext hb (u_lit 0 (by decide)) fun j h0 h1 => ?_⟩
    · have := hz j h0 h1; rw [Bool.or_eq_false_iff] at this; rw [this.1]; unfold tb; simp
    · have := hz j h0 h1; rw [Bool.or_eq_false_iff] at this; rw [this.2]; unfold tb; simp
  · rintro ⟨rfl, rfl⟩
    refine word_ext (u_or ha hb) (u_lit 0 (by decide)) fun j h0 h1 => ?_
    rw [tb_or]; unfold tb; simp
theorem an_zero {a b : Int} (ha : U64 a) (hb : U64 b) : anW a b = 0 ↔ ∀ j, 0 ≤ j → j < 64 → tb a j = true → tb b j = true := by
  constructor
  · intro h j h0 h1 ht
    have := tb_an (a := a) (b := b) h0 h1
    rw [h, ht] at this
    unfold tb at this ⊢
    simpa using this.symm
  · intro h
    refine word_ext (u_an ha hb) (u_lit 0 (by decide)) fun j h0 h1 => ?_
    rw [tb_an h0 h1]
    have h2 := h j h0 h1
    cases ha' : tb a j
    · unfold tb; simp
    · rw [h2 ha']; unfold tb; simp
/-- The words of two sets, joined up to one. -/
structure Jn (ws vs cur : List Int) (k ch : Int) : Prop where
  len : cur.length = ws.length
  lo : ∀ i : Int, 0 ≤ i → i < k → rdI cur i = orW (rdI ws i) (rdI vs i)
  hi : ∀ i : Int, k ≤ i → i < ws.length → rdI cur i = rdI ws i
  u : U64 ch
  ch0 : ch = 0 ↔ ∀ i : Int, 0 ≤ i → i < k → anW (rdI vs i) (rdI ws i) = 0
theorem Jn.zero (ws vs : List Int) : Jn ws vs ws 0 0 := ⟨rfl, fun i h0 h1 => by omega, fun _ _ _ => rfl, u_lit 0 (by decide), ⟨fun _ i h0 h1 => by omega, fun _ => rfl⟩⟩
theorem Jn.step {ws vs cur : List Int} {k ch : Int} (h : Jn ws vs cur k ch) (h0 : 0 ≤ k) (h1 : k < ws.length) (hu : U64 (rdI ws k)) (hv : U64 (rdI vs k)) :
    Jn ws vs (cur.set k.toNat (orW (rdI cur k) (rdI vs k))) (k + 1) (orW ch (anW (rdI vs k) (rdI cur k))) := by
  have hc := h.len
  have hk := h.hi k (by omega) h1
  rw [hk]
  refine ⟨by rw [List.length_set, hc], fun i hi0 hi1 => ?_, fun i hi0 hi1 => ?_, u_or h.u (u_an hv hu), ?_⟩
  · rw [rdW_set h0 (by omega) hi0]
    split
    · rename_i e; rw [e]
    · exact h.lo i hi0 (by omega)
  · rw [rdW_set h0 (by omega) (by omega), if_neg (by omega)]; exact h.hi i (by omega) hi1
  · rw [or_zero h.u (u_an hv hu), h.ch0]
    constructor
    · rintro ⟨ha, hb⟩ i hi0 hi1
      rcases Int.lt_or_eq_of_le (show i ≤ k by omega) with hlt | rfl
      · exact ha i hi0 hlt
      · exact hb
    · intro ha
      exact ⟨fun i hi0 hi1 => ha i hi0 (by omega), ha k h0 (by omega)⟩
theorem Rep.join {ws vs cur : List Int} {n ch : Int} {L M : List Int} (h : Rep ws n L) (h' : Rep vs n M) (hj : Jn ws vs cur ws.length ch) : Rep cur n (uni L M) ∧ (ch = 0 ↔ ∀ x ∈ M, x ∈ L) := by
  have hl := h.len
  have hl' := h'.len
  have hw : ∀ i : Int, 0 ≤ i → i < ws.length → rdI cur i = orW (rdI ws i) (rdI vs i) := fun i h0 h1 => hj.lo i h0 h1
  refine ⟨⟨by rw [hj.len]; exact hl, h.n0, fun w hw' => ?_, fun i h0 h1 => ?_, uni_sorted h.srt, fun x hx => (mem_uni.1 hx).elim (h.lim x) (h'.lim x)⟩, ?_⟩
  · obtain ⟨j, hj1, rfl⟩ := List.getElem_of_mem hw'
    have h2 := hj.len
    have e := rdI_eq (xs := cur) (i := (j : Int)) (by omega) (by omega)
    rw [Int.toNat_natCast, List.getElem?_eq_getElem hj1] at e
    rw [Option.some.inj e, hw j (by omega) (by omega)]
    exact u_or (h.rd (by omega) (by omega)) (h'.rd (by omega) (by omega))
  · have h2 := hj.len
    rw [h2] at h1
    unfold bitI
    rw [hw (i / 64) (by omega) (by omega), tb_or, Bool.or_eq_true, mem_uni]
    exact or_congr (h.mem i h0 h1) (h'.mem i h0 (by omega))
  · rw [hj.ch0]
    constructor
    · intro hz x hx
      have hx2 := h'.lim x hx
      have hz2 := (an_zero (h'.rd (by omega) (by omega)) (h.rd (by omega) (by omega))).1 (hz (x / 64) (by omega) (by omega)) (x % 64) (by omega) (by omega)
      exact (h.mem x hx2.1 (by omega)).1 (hz2 ((h'.mem x hx2.1 (by omega)).2 hx))
    · intro hs i h0 h1
      refine (an_zero (h'.rd (by omega) (by omega)) (h.rd (by omega) (by omega))).2 fun j hj0 hj1 ht => ?_
      have a1 := h'.mem (64 * i + j) (by omega) (by omega)
      have a2 := h.mem (64 * i + j) (by omega) (by omega)
      unfold bitI at a1 a2
      rw [show (64 * i + j) / 64 = i by omega, show (64 * i + j) % 64 = j by omega] at a1 a2
      exact a2.2 (hs _ (a1.1 ht))
/-- Is one of the second ones none of the first? -/
def newB (L M : List Int) : Bool := M.any fun x => decide (x ∉ L)
theorem newB_f {L M : List Int} (h : ∀ x ∈ M, x ∈ L) : newB L M = false := by
  unfold newB; rw [List.any_eq_false]; intro x hx; simp [h x hx]
theorem newB_t {L M : List Int} (h : ¬ ∀ x ∈ M, x ∈ L) : newB L M = true := by
  unfold newB; rw [List.any_eq_true]
  refine Classical.byContradiction fun hn => h fun x hx => ?_
  refine Classical.byContradiction fun hx2 => hn ⟨x, hx, by simp [hx2]⟩
/-- Up to there two rows are alike. -/
def eqTo (xs ys : List Int) (k : Int) : Prop := ∀ i : Int, 0 ≤ i → i < k → rdI xs i = rdI ys i
theorem eqTo_zero {xs ys : List Int} : eqTo xs ys 0 := fun i h0 h1 => by omega
theorem eqTo_step {xs ys : List Int} {k : Int} (h : eqTo xs ys k) (he : rdI xs k = rdI ys k) : eqTo xs ys (k + 1) := fun i h0 h1 => by
  rcases Int.lt_or_eq_of_le (show i ≤ k by omega) with hlt | rfl
  · exact h i h0 hlt
  · exact he
theorem eqTo_all {xs ys : List Int} (hl : xs.length = ys.length) (h : eqTo xs ys xs.length) : xs = ys := by
  refine List.ext_getElem hl fun j h1 h2 => ?_
  have e := h j (by omega) (by omega)
  have e1 := rdI_eq (xs := xs) (i := (j : Int)) (by omega) (by omega)
  have e2 := rdI_eq (xs := ys) (i := (j : Int)) (by omega) (by omega)
  rw [Int.toNat_natCast, List.getElem?_eq_getElem h1] at e1
  rw [Int.toNat_natCast, List.getElem?_eq_getElem h2] at e2
  rw [Option.some.inj e1, Option.some.inj e2, e]
theorem DnI.tail_ {b g c : Nat} {A : Option Addr} {ws : List Int} {n : Int} {W W' : World} (h : DnI b g c A ws n W) (hb : Below W.heap.size W W') : DnI b g c A ws n W' :=
  ⟨(hb.cell (World.block_lt_of_cell? W _ h.hb)).trans h.hb, (hb.cell (World.block_lt_of_cell? W _ h.h0)).trans h.h0, (hb.cell (World.block_lt_of_cell? W _ h.h1)).trans h.h1, h.hr.below hb⟩
theorem DnI.put {b g c : Nat} {A : Option Addr} {ws : List Int} {n : Int} {W : World} {l : Nat} {o o' : Obj} (h : DnI b g c A ws n W) (hl : W.heap[l]? = some o) (ho : o.isCells = false) : DnI b g c A ws n (W.putObj l o') := by
  have key : ∀ {p : Addr} {v : Value}, W.cell? p = some v → (W.putObj l o').cell? p = some v := fun {p v} hp => by
    obtain ⟨o2, h2, h3⟩ := cells_of_cell hp
    refine (World.cell?_of_block (World.putObj_heap_other (fun e => ?_))).trans hp
    rw [e, hl] at h2; cases h2; rw [ho] at h3; cases h3
  exact ⟨key h.hb, key h.h0, key h.h1, fun j v hv => let ⟨ad, e, hc⟩ := h.hr j v hv; ⟨ad, e, key hc⟩⟩
def addL (n : Int) (L : List Int) (i : Int) : List Int := if 0 ≤ i ∧ i < n ∧ i ∉ L then ins i L else L
def addB (n : Int) (L : List Int) (i : Int) : Bool := decide (0 ≤ i ∧ i < n ∧ i ∉ L)
theorem addL_out {n i : Int} {L : List Int} (h : i < 0 ∨ n ≤ i ∨ i ∈ L) : addL n L i = L ∧ addB n L i = false :=
  ⟨if_neg (fun ⟨a, b, c⟩ => by rcases h with h | h | h; omega; omega; exact c h), decide_eq_false (fun ⟨a, b, c⟩ => by rcases h with h | h | h; omega; omega; exact c h)⟩
theorem addL_in {n i : Int} {L : List Int} (h0 : 0 ≤ i) (h1 : i < n) (h2 : i ∉ L) : addL n L i = ins i L ∧ addB n L i = true := ⟨if_pos ⟨h0, h1, h2⟩, decide_eq_true ⟨h0, h1, h2⟩⟩
theorem addL_lim {n i : Int} {L : List Int} (h0 : 0 ≤ i) (h1 : i < n) : addL n L i = addI L i ∧ addB n L i = decide (i ∉ L) := by
  unfold addL addB addI
  by_cases h : i ∈ L
  · rw [if_neg (fun hh => hh.2.2 h), if_pos h, decide_eq_false (fun hh => hh.2.2 h)]; simp [h]
  · rw [if_pos ⟨h0, h1, h⟩, if_neg h, decide_eq_true ⟨h0, h1, h⟩]; simp [h]
theorem mem_rd {L : List Int} {k : Int} (h0 : 0 ≤ k) (h1 : k < L.length) : rdI L k ∈ L := List.mem_of_getElem? (rdI_eq h0 h1)
theorem uni_same {M : List Int} : ∀ {L : List Int}, (∀ x ∈ M, x ∈ L) → uni L M = L := by
  induction M with
  | nil => intro L _; rfl
  | cons x M ih =>
    intro L h
    show uni (addI L x) M = L
    have e : addI L x = L := if_pos (h x (by simp))
    rw [e]; exact ih (fun y hy => h y (by simp [hy]))
/-! ### a ringS of whole numbers -/
def ringS (bs : List ByteArray) (f n : Nat) : List ByteArray := (List.range n).map fun i => bs.getD ((f + i) % bs.length) ByteArray.empty
structure RQS (bs : List ByteArray) (f n : Nat) (xs : List ByteArray) : Prop where
  hn : n ≤ bs.length
  hf : 0 < bs.length → f < bs.length
  h0 : bs.length = 0 → f = 0
  hb : bs.length ≤ 4398046511104
  hx : xs = ringS bs f n
theorem RQS.len {bs xs : List ByteArray} {f n : Nat} (h : RQS bs f n xs) : xs.length = n := by rw [h.hx]; unfold ringS; simp
theorem RQS.nil : RQS [] 0 0 [] := ⟨Nat.le_refl _, fun h => by simp at h, fun _ => rfl, by simp, rfl⟩
/-! ### a map or none; what is only read, of a block of its own -/
/-- Read from elsewhere: whatever is done within M. -/
def RdF (M : Nat → Prop) (W : World) (B : Option Addr) (cs : List Value) : Prop := ∀ W2 L2, St W M W2 L2 → Rd W2 B cs
theorem RdF.old0 {M : Nat → Prop} {W W2 : World} {L2 : List Ent} {B : Option Addr} {cs : List Value} (h : RdF M W B cs) (HS : St W M W2 L2) : Rd W2 B cs := h W2 L2 HS
theorem RdF.of_row {W0 W : World} {M : Nat → Prop} {F L : List Ent} {i n c t z : Nat} {B : Option Addr} {cs : List Value} (HS : St W0 M W (F ++ L)) (hi : L[i]? = some (row B n c cs t z)) : RdF (owns F) W B cs := fun W2 L2 H2 j v hv => by
  have hm := List.mem_of_getElem? hi
  obtain ⟨ad, e, hc⟩ := Rd.row HS (i := F.length + i) (by rw [List.getElem?_append_right (by omega), Nat.add_sub_cancel_left]; exact hi) j v hv
  refine ⟨ad, e, H2.kept.cellN (fun ⟨f, hf, ho⟩ => ?_) hc⟩
  have hne := (List.pairwise_append.1 HS.ne).2.2 f hf _ hm _ ho
  apply hne
  have hb : (ad.add j).block = ad.block := by unfold Addr.add; split <;> rfl
  rw [hb]
  rcases (HS.has _ (List.mem_append_right _ hm)).1.2 with ⟨h9, _⟩ | ⟨g, cap, cur, h9, _⟩
  · cases h9; cases e
  · cases h9; cases e; rfl
/-! ### a row's whole block: what stands behind its length, too -/
section
variable {P : Program} {ops : Array Oper} {Q : Exit → Act → World → Prop} {R : Act → Prop} {rest : List Oper} {a : Act} {D : Option Nat} {l : List Value} {W W' W0 : World} {M : Nat → Prop} {L : List Ent} {v : Value} {op : Op} {d : Nat} {ty : TypeId} {ps : String} {af : Array Edge} {gd : Option (Nat × Bool)} {dst : Option Nat}
theorem qw' (v : Value) (hw : Region.wanted ⟨dst, op, ty, ps, af, gd⟩ (yielded ops (FrG D l).tmps) = true) (hr : (execOp (FrG D l).eval ⟨dst, op, ty, ps, af, gd⟩).run P W = .ok (.value v) W')
    (h : wpList P ops Q rest ((FrG D l).put dst v) W') : wpList P ops Q (⟨dst, op, ty, ps, af, gd⟩ :: rest) (FrG D l) W := by
  refine wpList_step fun K hK => ?_
  rw [if_pos hw]; unfold Oper.wp; rw [hr]
  exact hK _ _ h
theorem setCells_row {g t : Nat} : ∀ (vs : List Value) (o : Nat) (cur : Array Value) (w : World), w.heap[g]? = some (.cells cur t (0, 0)) → o + vs.length ≤ cur.size → w.setCells g o vs = w.setRow g (splice cur.toList o vs).toArray
  | [], o, cur, w, hg, _ => by
    simp only [splice, Array.toArray_toList, World.setCells]
    rw [setRow_self w g cur t (0, 0) hg]
  | v :: vs, o, cur, w, hg, hl => by
    simp only [List.length_cons] at hl
    rw [World.setCells, setCell_eq_setRow w g o cur t (0, 0) v hg, setCells_row vs (o + 1) (cur.setIfInBounds o v) _ (setRow_heap w g cur _ t _ hg) (by simp; omega), setRow_setRow]
    congr 2
    simp [splice]
end
/-! ### a few numbers, rising -/
def rk (L : List Int) (x : Int) : Int := ((L.filter fun y => decide (y < x)).length : Nat)
def S31 (L : List Int) : Prop := L.Pairwise (· < ·) ∧ ∀ x ∈ L, 0 ≤ x ∧ x < 2147483648
theorem S31.nil : S31 [] := ⟨.nil, fun x h => by cases h⟩
theorem S31.add {L : List Int} {i : Int} (h : S31 L) : S31 (addL 2147483648 L i) := by
  unfold addL; split
  · rename_i hc
    exact ⟨ins_sorted h.1 hc.2.2, fun x hx => (mem_ins.1 hx).elim (fun e => by subst e; exact ⟨hc.1, hc.2.1⟩) (h.2 x)⟩
  · exact h
/-! going through -/
structure SpT (b g c : Nat) (A : Option Addr) (L : List Int) (W : World) : Prop where
  hb : W.cell? ⟨b, 0, none⟩ = some (.pointer (some ⟨g, 0, none⟩))
  h0 : W.cell? ⟨g, 0, none⟩ = some (.slice A L.length c)
  hr : Rd W A (ci .i32 L)
theorem SpT.below {b g c : Nat} {A : Option Addr} {L : List Int} {W W' : World} (h : SpT b g c A L W) (hb : Below W.heap.size W W') : SpT b g c A L W' :=
  ⟨(hb.cell (World.block_lt_of_cell? W _ h.hb)).trans h.hb, (hb.cell (World.block_lt_of_cell? W _ h.h0)).trans h.h0, h.hr.below hb⟩
theorem SpT.put {b g c : Nat} {A : Option Addr} {L : List Int} {W : World} {l : Nat} {o o' : Obj} (h : SpT b g c A L W) (hl : W.heap[l]? = some o) (ho : o.isCells = false) : SpT b g c A L (W.putObj l o') := by
  have key : ∀ {p : Addr} {v : Value}, W.cell? p = some v → (W.putObj l o').cell? p = some v := fun {p v} hp => by
    obtain ⟨o2, h2, h3⟩ := cells_of_cell hp
    refine (World.cell?_of_block (World.putObj_heap_other (fun e => ?_))).trans hp
    rw [e, hl] at h2; cases h2; rw [ho] at h3; cases h3
  exact ⟨key h.hb, key h.h0, fun j v hv => let ⟨ad, e, hc⟩ := h.hr j v hv; ⟨ad, e, key hc⟩⟩
def SpK (b g c : Nat) (A : Option Addr) (L : List Int) (W W' : World) : Prop := SpT b g c A L W → SpT b g c A L W'
theorem SpK.of {b g c : Nat} {A : Option Addr} {L : List Int} {W X Y : World} (h : SpT b g c A L W) (hb : Below W.heap.size X Y) : SpK b g c A L X Y := fun ⟨p1, p2, p4⟩ =>
  ⟨(hb.cell (World.block_lt_of_cell? W _ h.hb)).trans p1, (hb.cell (World.block_lt_of_cell? W _ h.h0)).trans p2, fun j v hv => by
    obtain ⟨ad, e, hc⟩ := p4 j v hv
    obtain ⟨ad2, e2, hc2⟩ := h.hr j v hv
    rw [e] at e2; cases e2
    exact ⟨ad, e, (hb.cell (World.block_lt_of_cell? W _ hc2)).trans hc⟩⟩
/-! ### many entries as one -/
theorem rd_of_rowP {A : Option Addr} {n c t z : Nat} {cs : List Value} {W : World} (h : (row A n c cs t z).P W) : Rd W A cs := by
  rcases h.2 with ⟨e, h2⟩ | ⟨g, cap, cur, e, _⟩
  · intro j v hv
    have := h.1
    rw [h2, Nat.zero_mul] at this
    rw [List.eq_nil_of_length_eq_zero this] at hv; simp at hv
  · intro j v hv
    cases e
    exact ⟨_, rfl, h.cells rfl j v hv⟩
theorem cell_of_blkP {g t : Nat} {cs : List Value} {W : World} (h : (blk g cs t).P W) {j : Nat} {v : Value} (hv : cs[j]? = some v) : W.cell? ⟨g, j, none⟩ = some v := by
  rw [cell_of_row W g j cs.toArray t (0, 0) h]
  simpa using hv
theorem Rd.elemC {W : World} {α : Type} {f : α → List Value} (hf : ∀ x, (f x).length = 1) {ad : Addr} {xs : List α} (h : Rd W (some ad) (cf f xs)) {i : Nat} {x : α} {v : Value} (hx : xs[i]? = some x) (hv : (f x)[0]? = some v) : W.cell? (ad.add i) = some v := by
  have := Rd.elem0 hf h hx hv
  rwa [Nat.mul_one] at this
theorem St.elemC {W0 W : World} {M : Nat → Prop} {L : List Ent} (HS : St W0 M W L) {α : Type} {f : α → List Value} (hf : ∀ x, (f x).length = 1) {i g n c t : Nat} {xs : List α} (hi : L[i]? = some (row (some ⟨g, 0, none⟩) n c (cf f xs) t 1)) {j : Nat} {x : α} {v : Value} (hx : xs[j]? = some x) (hv : (f x)[0]? = some v) : W.cell? ⟨g, j, none⟩ = some v := by
  have := HS.elem0 hf hi hx hv
  rwa [Nat.mul_one] at this
def dj (e f : Ent) : Prop := ∀ k, e.own k → ¬ f.own k
theorem dj_symm {e f : Ent} (h : dj e f) : dj f e := fun k h1 h2 => h k h2 h1
def many (F : List Ent) : Ent := ⟨fun k => ∃ e ∈ F, e.own k, fun W => (∀ e ∈ F, e.P W) ∧ F.Pairwise dj, fun W W' h p => ⟨fun e he => e.loc W W' (fun k ho => h k ⟨e, he, ho⟩) (p.1 e he), p.2⟩⟩
section
variable {W0 W : World} {M : Nat → Prop} {L F F1 F2 E : List Ent}
theorem St.openM (h : St W0 M W (many (F1 ++ E ++ F2) :: L)) : St W0 M W (E ++ many (F1 ++ F2) :: L) := by
  have hm := h.has _ (List.mem_cons_self)
  have hP := hm.1
  have hmem : ∀ e, e ∈ E → e ∈ F1 ++ E ++ F2 := fun e he => by simp [he]
  have hmem2 : ∀ e, e ∈ F1 ++ F2 → e ∈ F1 ++ E ++ F2 := fun e he => by rcases List.mem_append.1 he with h | h <;> simp [h]
  have hp := hP.2
  obtain ⟨p1, p2, p3⟩ := List.pairwise_append.1 hp
  obtain ⟨q1, q2, q3⟩ := List.pairwise_append.1 p1
  have hne := List.pairwise_cons.1 h.ne
  have hEF : ∀ e ∈ E, ∀ f ∈ F1 ++ F2, dj e f := fun e he f hf => by
    rcases List.mem_append.1 hf with hf | hf
    · exact dj_symm (q3 f hf e he)
    · exact p3 e (by simp [he]) f hf
  refine ⟨h.kept, fun e he => ?_, List.pairwise_append.2 ⟨q2, List.pairwise_cons.2 ⟨fun f hf k h1 h2 => ?_, hne.2⟩, fun e he f hf k h1 h2 => ?_⟩⟩
  · rcases List.mem_append.1 he with he | he
    · exact ⟨hP.1 e (hmem e he), fun k hk => hm.2 k ⟨e, hmem e he, hk⟩⟩
    · rcases List.mem_cons.1 he with rfl | he
      · exact ⟨⟨fun f hf => hP.1 f (hmem2 f hf), List.pairwise_append.2 ⟨q1, p2, fun a ha b hb => p3 a (by simp [ha]) b hb⟩⟩, fun k ⟨f, hf, hk⟩ => hm.2 k ⟨f, hmem2 f hf, hk⟩⟩
      · exact h.has e (List.mem_cons_of_mem _ he)
  · obtain ⟨e, he, hk⟩ := h1
    exact hne.1 f hf k ⟨e, hmem2 e he, hk⟩ h2
  · rcases List.mem_cons.1 hf with rfl | hf
    · obtain ⟨f, hf, hk⟩ := h2
      exact hEF e he f hf k h1 hk
    · exact hne.1 f hf k ⟨e, hmem e he, h1⟩ h2
theorem St.closeM (h : St W0 M W (E ++ many (F1 ++ F2) :: L)) : St W0 M W (many (F1 ++ E ++ F2) :: L) := by
  obtain ⟨p1, p2, p3⟩ := List.pairwise_append.1 h.ne
  obtain ⟨q1, q2⟩ := List.pairwise_cons.1 p2
  have hm := h.has (many (F1 ++ F2)) (by simp)
  obtain ⟨r1, r2, r3⟩ := List.pairwise_append.1 hm.1.2
  have hEF : ∀ e ∈ E, ∀ f ∈ F1 ++ F2, dj e f := fun e he f hf k h1 h2 => p3 e he (many (F1 ++ F2)) (by simp) k h1 ⟨f, hf, h2⟩
  have hall : ∀ e ∈ F1 ++ E ++ F2, e.P W ∧ ∀ k, e.own k → k < W.heap.size ∧ (M k ∨ W0.heap.size ≤ k) := fun e he => by
    have hc : e ∈ E ∨ e ∈ F1 ++ F2 := by
      rcases List.mem_append.1 he with he | he
      · rcases List.mem_append.1 he with he | he
        · exact .inr (by simp [he])
        · exact .inl he
      · exact .inr (by simp [he])
    rcases hc with hc | hc
    · exact h.has e (by simp [hc])
    · exact ⟨hm.1.1 e hc, fun k hk => hm.2 k ⟨e, hc, hk⟩⟩
  refine ⟨h.kept, fun e he => ?_, List.pairwise_cons.2 ⟨fun f hf k h1 h2 => ?_, q2⟩⟩
  · rcases List.mem_cons.1 he with rfl | he
    · refine ⟨⟨fun e he => (hall e he).1, List.pairwise_append.2 ⟨List.pairwise_append.2 ⟨r1, p1, fun a ha b hb => dj_symm (hEF b hb a (by simp [ha]))⟩, r2, fun a ha b hb => ?_⟩⟩, fun k ⟨e, he, hk⟩ => (hall e he).2 k hk⟩
      rcases List.mem_append.1 ha with ha | ha
      · exact r3 a ha b hb
      · exact hEF a ha b (by simp [hb])
    · exact h.has e (by simp [he])
  · obtain ⟨e, he, hk⟩ := h1
    rcases List.mem_append.1 he with he | he
    · rcases List.mem_append.1 he with he | he
      · exact q1 f hf k ⟨e, by simp [he], hk⟩ h2
      · exact p3 e he f (by simp [hf]) k hk h2
    · exact q1 f hf k ⟨e, by simp [he], hk⟩ h2
theorem St.nilM (h : St W0 M W L) : St W0 M W (many [] :: L) :=
  ⟨h.kept, fun e he => by
    rcases List.mem_cons.1 he with rfl | he
    · exact ⟨⟨fun e he => (nomatch he), .nil⟩, fun k ⟨e, he, _⟩ => (nomatch he)⟩
    · exact h.has e he, List.pairwise_cons.2 ⟨fun f hf k ⟨e, he, _⟩ => (nomatch he), h.ne⟩⟩
end
/-! ### rows of sets -/
abbrev Rw := Option (Nat × Option Addr × Nat × List Int)
def cpt (x : Rw) : List Value := [.pointer (x.map fun y => ⟨y.1, 0, none⟩)]
def rsE1 (ts tu : Nat) (cols : Int) : Rw → List Ent
  | none => []
  | some y => [blk y.1 [.slice y.2.1 y.2.2.2.length y.2.2.1, .int .i64 cols] ts, row y.2.1 y.2.2.2.length y.2.2.1 (ci .u64 y.2.2.2) tu 1]
def rsE (ts tu : Nat) (cols : Int) (rs : List Rw) : List Ent := rs.flatMap (rsE1 ts tu cols)
theorem rsE_at {ts tu : Nat} {cols : Int} {rs : List Rw} {k : Nat} {x : Rw} (h : rs[k]? = some x) : rsE ts tu cols rs = rsE ts tu cols (rs.take k) ++ rsE1 ts tu cols x ++ rsE ts tu cols (rs.drop (k + 1)) := by
  obtain ⟨hk, rfl⟩ := List.getElem?_eq_some_iff.1 h
  have e : rs = rs.take k ++ (rs[k] :: rs.drop (k + 1)) := by rw [← List.drop_eq_getElem_cons, List.take_append_drop]
  unfold rsE
  conv => lhs; rw [e]
  rw [List.flatMap_append, List.flatMap_cons, List.append_assoc]
theorem rsE_set {ts tu : Nat} {cols : Int} {rs : List Rw} {k : Nat} (y : Rw) (h : k < rs.length) : rsE ts tu cols (rs.set k y) = rsE ts tu cols (rs.take k) ++ rsE1 ts tu cols y ++ rsE ts tu cols (rs.drop (k + 1)) := by
  have h1 : (rs.set k y)[k]? = some y := by rw [List.getElem?_set_self h]
  rw [rsE_at h1, List.take_set_of_le (Nat.le_refl k), List.drop_set_of_lt (by omega)]
theorem rsE_nil {ts tu : Nat} {cols : Int} {n : Nat} : rsE ts tu cols (List.replicate n none) = [] := by
  unfold rsE
  induction n with
  | zero => rfl
  | succ n ih => rw [List.replicate_succ, List.flatMap_cons, ih]; rfl
section
variable {W0 W : World} {M : Nat → Prop} {L : List Ent} {ts tu : Nat} {cols : Int} {rs : List Rw} {k : Nat}
/-- A row's set, for itself. -/
theorem St.takeR (h : St W0 M W (many (rsE ts tu cols rs) :: L)) {x : Rw} (hx : rs[k]? = some x) : St W0 M W (rsE1 ts tu cols x ++ many (rsE ts tu cols (rs.take k) ++ rsE ts tu cols (rs.drop (k + 1))) :: L) := by
  rw [rsE_at hx] at h; exact h.openM
theorem St.giveR {y : Rw} (hk : k < rs.length) (h : St W0 M W (rsE1 ts tu cols y ++ many (rsE ts tu cols (rs.take k) ++ rsE ts tu cols (rs.drop (k + 1))) :: L)) : St W0 M W (many (rsE ts tu cols (rs.set k y)) :: L) := by
  rw [rsE_set y hk]; exact h.closeM
/-- What can be read of a matrix. -/
structure Mr (W : World) (g : Nat) (R : Option Addr) (cr : Nat) (cols : Int) (rs : List Rw) : Prop where
  h0 : W.cell? ⟨g, 0, none⟩ = some (.slice R rs.length cr)
  h1 : W.cell? ⟨g, 1, none⟩ = some (.int .i64 cols)
  hr : Rd W R (cf cpt rs)
  hs : ∀ y, some y ∈ rs → W.cell? ⟨y.1, 0, none⟩ = some (.slice y.2.1 y.2.2.2.length y.2.2.1) ∧ W.cell? ⟨y.1, 1, none⟩ = some (.int .i64 cols) ∧ Rd W y.2.1 (ci .u64 y.2.2.2)
theorem Mr.old0 {g cr : Nat} {R : Option Addr} (h : Mr W0 g R cr cols rs) (HS : St W0 (owns []) W L) : Mr W g R cr cols rs :=
  ⟨HS.old0 h.h0, HS.old0 h.h1, h.hr.old0 HS, fun y hy => ⟨HS.old0 (h.hs y hy).1, HS.old0 (h.hs y hy).2.1, (h.hs y hy).2.2.old0 HS⟩⟩
theorem Mr.of (HS : St W0 M W L) {i j m g cr t t2 : Nat} {R : Option Addr} (hi : L[i]? = some (blk g [.slice R rs.length cr, .int .i64 cols] t)) (hj : L[j]? = some (row R rs.length cr (cf cpt rs) t2 1)) (hm : L[m]? = some (many (rsE ts tu cols rs))) : Mr W g R cr cols rs := by
  refine ⟨HS.cell (j := 0) hi rfl, HS.cell (j := 1) hi rfl, Rd.row HS hj, fun y hy => ?_⟩
  have hP := (HS.get hm).1
  have a1 := hP (blk y.1 [.slice y.2.1 y.2.2.2.length y.2.2.1, .int .i64 cols] ts) (List.mem_flatMap.2 ⟨some y, hy, by simp [rsE1]⟩)
  have a2 := hP (row y.2.1 y.2.2.2.length y.2.2.1 (ci .u64 y.2.2.2) tu 1) (List.mem_flatMap.2 ⟨some y, hy, by simp [rsE1]⟩)
  exact ⟨cell_of_blkP a1 (j := 0) rfl, cell_of_blkP a1 (j := 1) rfl, rd_of_rowP a2⟩
end
def mget (rs : List Rw) (r : Int) : Rw := if 0 ≤ r ∧ r < rs.length then rs.getD r.toNat none else none
def rowL (Ls : List (List Int)) (r : Int) : List Int := if 0 ≤ r ∧ r < Ls.length then Ls.getD r.toNat [] else []
structure MRep (rs : List Rw) (cols : Int) (Ls : List (List Int)) : Prop where
  len : rs.length = Ls.length
  c0 : 0 ≤ cols
  at_ : ∀ (r : Nat) (x : Rw) (L : List Int), rs[r]? = some x → Ls[r]? = some L → match x with | none => L = [] | some y => Rep y.2.2.2 cols L
theorem mget_some {rs : List Rw} {r : Int} {y} (h : mget rs r = some y) : 0 ≤ r ∧ r < rs.length ∧ rs[r.toNat]? = some (some y) := by
  unfold mget at h
  split at h
  · rename_i hc
    refine ⟨hc.1, hc.2, ?_⟩
    rw [List.getD_eq_getElem?_getD, List.getElem?_eq_getElem (by omega), Option.getD_some] at h
    rw [List.getElem?_eq_getElem (by omega), h]
  · cases h
theorem mget_in {rs : List Rw} {r : Int} (h0 : 0 ≤ r) (h1 : r < rs.length) : rs[r.toNat]? = some (mget rs r) := by
  unfold mget; rw [if_pos ⟨h0, h1⟩, List.getD_eq_getElem?_getD, List.getElem?_eq_getElem (by omega), Option.getD_some]
theorem mget_gx {rs : List Rw} {r : Int} (h0 : 0 ≤ r) (h1 : r < rs.length) : gx rs r = mget rs r := by
  have e := gx_eq (xs := rs) h0 h1
  rw [mget_in h0 h1] at e
  exact (Option.some.inj e).symm
theorem rowL_in {Ls : List (List Int)} {r : Int} (h0 : 0 ≤ r) (h1 : r < Ls.length) : Ls[r.toNat]? = some (rowL Ls r) := by
  unfold rowL; rw [if_pos ⟨h0, h1⟩, List.getD_eq_getElem?_getD, List.getElem?_eq_getElem (by omega), Option.getD_some]
theorem rowL_out {Ls : List (List Int)} {r : Int} (h : r < 0 ∨ (Ls.length : Int) ≤ r) : rowL Ls r = [] := if_neg (by omega)
namespace MRep
variable {rs : List Rw} {cols : Int} {Ls : List (List Int)} {r : Int}
theorem some_ (h : MRep rs cols Ls) {y} (hx : mget rs r = some y) : Rep y.2.2.2 cols (rowL Ls r) := by
  obtain ⟨h0, h1, h2⟩ := mget_some hx
  have hl := h.len
  exact h.at_ r.toNat _ _ h2 (rowL_in h0 (by omega))
theorem none_ (h : MRep rs cols Ls) (hx : mget rs r = none) : rowL Ls r = [] := by
  have hl := h.len
  by_cases hc : 0 ≤ r ∧ r < rs.length
  · exact h.at_ r.toNat none _ (hx ▸ mget_in hc.1 hc.2) (rowL_in hc.1 (by omega))
  · exact rowL_out (by omega)
theorem lim (h : MRep rs cols Ls) : ∀ x ∈ rowL Ls r, 0 ≤ x ∧ x < cols := by
  intro x hx
  cases hm : mget rs r with
  | none => rw [h.none_ hm] at hx; cases hx
  | some y => exact (h.some_ hm).lim x hx
theorem srt (h : MRep rs cols Ls) : (rowL Ls r).Pairwise (· < ·) := by
  cases hm : mget rs r with
  | none => rw [h.none_ hm]; exact .nil
  | some y => exact (h.some_ hm).srt
theorem set_ (h : MRep rs cols Ls) {y} {L : List Int} (hy : Rep y.2.2.2 cols L) : MRep (rs.set r.toNat (some y)) cols (Ls.set r.toNat L) := by
  refine ⟨by rw [List.length_set, List.length_set]; exact h.len, h.c0, fun k x L' hx hL => ?_⟩
  rw [List.getElem?_set] at hx hL
  have hl := h.len
  split at hx
  · rename_i e
    subst e
    rw [if_pos rfl] at hL
    split at hx
    · cases hx
      rw [if_pos (by omega)] at hL; cases hL
      exact hy
    · cases hx
  · rename_i e
    rw [if_neg e] at hL
    exact h.at_ k x L' hx hL
theorem zero {n : Nat} (hc : 0 ≤ cols) : MRep (List.replicate n none) cols (List.replicate n []) := by
  refine ⟨by simp, hc, fun k x L hx hL => ?_⟩
  rw [List.getElem?_replicate] at hx hL
  split at hx
  · rename_i e; rw [if_pos e] at hL; cases hx; cases hL; rfl
  · cases hx
end MRep
theorem rowL_set {Ls : List (List Int)} {r q : Int} {L : List Int} (h0 : 0 ≤ r) (h1 : r < Ls.length) : rowL (Ls.set r.toNat L) q = if q = r then L else rowL Ls q := by
  unfold rowL
  rw [List.length_set]
  by_cases hc : 0 ≤ q ∧ q < Ls.length
  · rw [if_pos hc, List.getD_eq_getElem?_getD, List.getElem?_set]
    by_cases e : q = r
    · subst e; rw [if_pos rfl, if_pos (by omega), if_pos rfl]; rfl
    · rw [if_neg (by omega), if_neg e, if_pos hc, List.getD_eq_getElem?_getD]
  · rw [if_neg hc]
    by_cases e : q = r
    · subst e; exact absurd ⟨h0, h1⟩ hc
    · rw [if_neg e, if_neg hc]
theorem set_rowL {Ls : List (List Int)} {r : Int} (h0 : 0 ≤ r) (h1 : r < Ls.length) : Ls.set r.toNat (rowL Ls r) = Ls := by
  have h := rowL_in h0 h1
  obtain ⟨hk, e⟩ := List.getElem?_eq_some_iff.1 h
  rw [← e]; exact List.set_getElem_self hk
theorem mget_mem {rs : List Rw} {r : Int} {y} (h : mget rs r = some y) : some y ∈ rs := List.mem_of_getElem? (mget_some h).2.2
theorem gx_setw {rs : List Rw} {r : Int} (y : Rw) (h0 : 0 ≤ r) (h1 : r < rs.length) : gx (rs.set r.toNat y) r = y := by
  have e := gx_eq (xs := rs.set r.toNat y) h0 (by rw [List.length_set]; exact h1)
  rw [List.getElem?_set_self (by omega)] at e
  exact (Option.some.inj e).symm
theorem mget_set {rs : List Rw} {r q : Int} {y : Rw} (h0 : 0 ≤ r) (h1 : r < rs.length) : mget (rs.set r.toNat y) q = if q = r then y else mget rs q := by
  unfold mget
  rw [List.length_set]
  by_cases hc : 0 ≤ q ∧ q < rs.length
  · rw [if_pos hc, List.getD_eq_getElem?_getD, List.getElem?_set]
    by_cases e : q = r
    · subst e; rw [if_pos rfl, if_pos (by omega), if_pos rfl]; rfl
    · rw [if_neg (by omega), if_neg e, if_pos hc, List.getD_eq_getElem?_getD]
  · rw [if_neg hc]
    by_cases e : q = r
    · subst e; exact absurd ⟨h0, h1⟩ hc
    · rw [if_neg e, if_neg hc]
def addM (Ls : List (List Int)) (cols r c : Int) : List (List Int) := if 0 ≤ r ∧ r < Ls.length then Ls.set r.toNat (addL cols (rowL Ls r) c) else Ls
def addMB (Ls : List (List Int)) (cols r c : Int) : Bool := if 0 ≤ r ∧ r < Ls.length then addB cols (rowL Ls r) c else false
def orM (Ls : List (List Int)) (r o : Int) : List (List Int) := if 0 ≤ r ∧ r < Ls.length then Ls.set r.toNat (uni (rowL Ls r) (rowL Ls o)) else Ls
def orMB (Ls : List (List Int)) (r o : Int) : Bool := if 0 ≤ r ∧ r < Ls.length then newB (rowL Ls r) (rowL Ls o) else false
theorem addM_c {Ls : List (List Int)} {cols r c : Int} (h : c < 0 ∨ cols ≤ c) : addM Ls cols r c = Ls ∧ addMB Ls cols r c = false := by
  unfold addM addMB
  by_cases hr : 0 ≤ r ∧ r < Ls.length
  · rw [if_pos hr, if_pos hr, (addL_out (n := cols) (i := c) (L := rowL Ls r) (by omega)).1, (addL_out (n := cols) (i := c) (L := rowL Ls r) (by omega)).2]
    exact ⟨set_rowL hr.1 hr.2, rfl⟩
  · rw [if_neg hr, if_neg hr]; exact ⟨rfl, rfl⟩
theorem addM_r {Ls : List (List Int)} {cols r c : Int} (h : r < 0 ∨ (Ls.length : Int) ≤ r) : addM Ls cols r c = Ls ∧ addMB Ls cols r c = false := ⟨if_neg (by omega), if_neg (by omega)⟩
theorem addM_in {Ls : List (List Int)} {cols r c : Int} (h0 : 0 ≤ r) (h1 : r < Ls.length) : addM Ls cols r c = Ls.set r.toNat (addL cols (rowL Ls r) c) ∧ addMB Ls cols r c = addB cols (rowL Ls r) c := ⟨if_pos ⟨h0, h1⟩, if_pos ⟨h0, h1⟩⟩
theorem orM_r {Ls : List (List Int)} {r o : Int} (h : r < 0 ∨ (Ls.length : Int) ≤ r) : orM Ls r o = Ls ∧ orMB Ls r o = false := ⟨if_neg (by omega), if_neg (by omega)⟩
theorem orM_in {Ls : List (List Int)} {r o : Int} (h0 : 0 ≤ r) (h1 : r < Ls.length) : orM Ls r o = Ls.set r.toNat (uni (rowL Ls r) (rowL Ls o)) ∧ orMB Ls r o = newB (rowL Ls r) (rowL Ls o) := ⟨if_pos ⟨h0, h1⟩, if_pos ⟨h0, h1⟩⟩
theorem orM_o {Ls : List (List Int)} {r o : Int} (h : rowL Ls o = []) : orM Ls r o = Ls ∧ orMB Ls r o = false := by
  unfold orM orMB
  by_cases hr : 0 ≤ r ∧ r < Ls.length
  · rw [if_pos hr, if_pos hr, h]
    exact ⟨set_rowL hr.1 hr.2, rfl⟩
  · rw [if_neg hr, if_neg hr]; exact ⟨rfl, rfl⟩
/-! counts, columns -/
def cntL (Ls : List (List Int)) : Nat := (Ls.map List.length).sum
def CntP (Ls : List (List Int)) (k n : Int) : Prop := n = ((Ls.take k.toNat).map List.length).sum
theorem cntP_start (Ls : List (List Int)) : CntP Ls 0 0 := by simp [CntP]
theorem rowL_take {Ls : List (List Int)} {k : Int} (h0 : 0 ≤ k) (h1 : k < Ls.length) : Ls.take (k + 1).toNat = Ls.take k.toNat ++ [rowL Ls k] := by
  rw [show (k + 1).toNat = k.toNat + 1 by omega, List.take_add_one, rowL_in h0 h1]; rfl
theorem cntP_step {Ls : List (List Int)} {k n : Int} (h : CntP Ls k n) (h0 : 0 ≤ k) (h1 : k < Ls.length) : CntP Ls (k + 1) (n + (rowL Ls k).length) := by
  unfold CntP at *
  rw [rowL_take h0 h1, h]; simp
theorem cntP_end {Ls : List (List Int)} {k n : Int} (h : CntP Ls k n) (hk : k = Ls.length) : n = cntL Ls := by
  unfold CntP at h; rw [hk, Int.toNat_natCast, List.take_length] at h; exact h
theorem rsE_erase {ts tu : Nat} {cols : Int} {rs : List Rw} {k : Nat} : rsE ts tu cols (rs.eraseIdx k) = rsE ts tu cols (rs.take k) ++ rsE ts tu cols (rs.drop (k + 1)) := by
  unfold rsE; rw [List.eraseIdx_eq_take_drop_succ, List.flatMap_append]
section
variable {W0 W : World} {M : Nat → Prop} {L : List Ent} {ts tu : Nat} {cols : Int} {rs : List Rw} {k : Nat}
theorem St.takeE (h : St W0 M W (many (rsE ts tu cols rs) :: L)) {x : Rw} (hx : rs[k]? = some x) : St W0 M W (rsE1 ts tu cols x ++ many (rsE ts tu cols (rs.eraseIdx k)) :: L) := by
  rw [rsE_erase]; exact h.takeR hx
theorem St.giveE {y : Rw} (hk : k < rs.length) (h : St W0 M W (rsE1 ts tu cols y ++ many (rsE ts tu cols (rs.eraseIdx k)) :: L)) : St W0 M W (many (rsE ts tu cols (rs.set k y)) :: L) := by
  rw [rsE_erase] at h; exact h.giveR hk
theorem St.giveS {y : Rw} (hk : rs[k]? = some y) (h : St W0 M W (rsE1 ts tu cols y ++ many (rsE ts tu cols (rs.eraseIdx k)) :: L)) : St W0 M W (many (rsE ts tu cols rs) :: L) := by
  obtain ⟨h1, h2⟩ := List.getElem?_eq_some_iff.1 hk
  have h3 := h.giveE h1
  rw [← h2, List.set_getElem_self] at h3; exact h3
end
def eix (i j : Nat) : Nat := if j < i then j else j - 1
theorem erase_get {rs : List Rw} {i j : Nat} {y : Rw} (hij : i ≠ j) (hy : rs[j]? = some y) : (rs.eraseIdx i)[eix i j]? = some y := by
  unfold eix
  rw [List.getElem?_eraseIdx]
  by_cases h : j < i
  · rw [if_pos h, if_pos h]; exact hy
  · rw [if_neg h, if_neg (by omega), show j - 1 + 1 = j by omega]; exact hy
theorem uni_self (L : List Int) : uni L L = L := uni_same fun _ h => h
theorem newB_self (L : List Int) : newB L L = false := newB_f fun _ h => h
theorem anW_self {w : Int} (h : U64 w) : anW w w = 0 := (an_zero h h).2 fun _ _ _ h => h
theorem orW_self {w : Int} (h : U64 w) : orW w w = w := word_ext (u_or h h) h fun j h0 h1 => by rw [tb_or, Bool.or_self]
theorem set_rd {ws : List Int} {k : Int} (h0 : 0 ≤ k) (h1 : k < ws.length) : ws.set k.toNat (rdI ws k) = ws := by
  have h := rdI_eq h0 h1
  obtain ⟨hk, e⟩ := List.getElem?_eq_some_iff.1 h
  rw [← e]; exact List.set_getElem_self hk
/-! closing -/
def stpR (Ls : List (List Int)) (k r : Int) : List (List Int) := if k ∈ rowL Ls r then orM Ls r k else Ls
def inn (k : Int) : Nat → List (List Int) → List (List Int)
  | 0, Ls => Ls
  | r + 1, Ls => stpR (inn k r Ls) k r
def outr (n : Nat) : Nat → List (List Int) → List (List Int)
  | 0, Ls => Ls
  | k + 1, Ls => inn k n (outr n k Ls)
def clo (Ls : List (List Int)) : List (List Int) := outr Ls.length Ls.length Ls
theorem orM_len (Ls : List (List Int)) (r o : Int) : (orM Ls r o).length = Ls.length := by unfold orM; split <;> simp
theorem stpR_len (Ls : List (List Int)) (k r : Int) : (stpR Ls k r).length = Ls.length := by unfold stpR; split; exact orM_len _ _ _; rfl
theorem inn_len (k : Int) (Ls : List (List Int)) : ∀ r, (inn k r Ls).length = Ls.length
  | 0 => rfl
  | r + 1 => by show (stpR (inn k r Ls) k r).length = _; rw [stpR_len, inn_len k Ls r]
theorem outr_len (n : Nat) (Ls : List (List Int)) : ∀ k, (outr n k Ls).length = Ls.length
  | 0 => rfl
  | k + 1 => by show (inn k n (outr n k Ls)).length = _; rw [inn_len, outr_len n Ls k]
theorem inn_step {Ls A : List (List Int)} {k r : Int} (h : A = inn k r.toNat Ls) (h0 : 0 ≤ r) : stpR A k r = inn k (r + 1).toNat Ls := by
  rw [show (r + 1).toNat = r.toNat + 1 by omega]
  show _ = stpR (inn k r.toNat Ls) k (r.toNat : Nat)
  rw [h, show ((r.toNat : Nat) : Int) = r by omega]
theorem outr_step {Ls A B : List (List Int)} {k : Int} {n : Nat} (h : A = outr n k.toNat Ls) (h0 : 0 ≤ k) (hB : B = inn k n A) : B = outr n (k + 1).toNat Ls := by
  rw [show (k + 1).toNat = k.toNat + 1 by omega]
  show _ = inn (k.toNat : Nat) n (outr n k.toNat Ls)
  rw [hB, h, show ((k.toNat : Nat) : Int) = k by omega]
theorem cntL_le {Ls : List (List Int)} {b : Nat} (h : ∀ L ∈ Ls, L.length ≤ b) : cntL Ls ≤ b * Ls.length := by
  unfold cntL
  induction Ls with
  | nil => simp
  | cons L Ls ih =>
    have h1 := h L (by simp)
    have h2 := ih (fun x hx => h x (by simp [hx]))
    simp only [List.map_cons, List.sum_cons, List.length_cons, Nat.mul_succ]
    omega
theorem MRep.cnt_le {rs : List Rw} {cols : Int} {Ls : List (List Int)} (h : MRep rs cols Ls) (hc : cols ≤ 65536) : cntL Ls ≤ 65600 * Ls.length := by
  refine cntL_le fun L hL => ?_
  obtain ⟨k, hk, rfl⟩ := List.getElem_of_mem hL
  have hl := h.len
  have h1 := rowL_in (Ls := Ls) (r := (k : Int)) (by omega) (by omega)
  rw [Int.toNat_natCast, List.getElem?_eq_getElem hk] at h1
  rw [Option.some.inj h1]
  cases hm : mget rs (k : Int) with
  | none => rw [h.none_ hm]; simp
  | some y => have := (h.some_ hm).llen; omega
/-! ### closing a matrix -/
theorem rowL_nat {Ls : List (List Int)} {q : Int} : rowL Ls q ≠ [] → 0 ≤ q ∧ q < Ls.length := fun h => by
  by_cases hc : 0 ≤ q ∧ q < Ls.length
  · exact hc
  · exact absurd (rowL_out (by omega)) h
theorem rowL_orM {Ls : List (List Int)} {r o q : Int} (h0 : 0 ≤ r) (h1 : r < Ls.length) : rowL (orM Ls r o) q = if q = r then uni (rowL Ls r) (rowL Ls o) else rowL Ls q := by
  rw [(orM_in h0 h1).1]; exact rowL_set h0 h1
theorem rowL_inn {Ls : List (List Int)} {k : Int} (h0 : 0 ≤ k) (h1 : k < Ls.length) : ∀ (m : Nat), m ≤ Ls.length → ∀ q : Int, rowL (inn k m Ls) q = if 0 ≤ q ∧ q < m ∧ k ∈ rowL Ls q then uni (rowL Ls q) (rowL Ls k) else rowL Ls q
  | 0, _, q => by rw [if_neg (by omega)]; rfl
  | m + 1, hm, q => by
    have ih := rowL_inn h0 h1 m (by omega)
    have hl := inn_len k Ls m
    have ek : rowL (inn k m Ls) k = rowL Ls k := by
      rw [ih k]; split
      · exact uni_self _
      · rfl
    have em : rowL (inn k m Ls) m = rowL Ls m := by rw [ih m, if_neg (by omega)]
    show rowL (stpR (inn k m Ls) k m) q = _
    unfold stpR
    rw [em]
    by_cases hk : k ∈ rowL Ls m
    · rw [if_pos hk, rowL_orM (by omega) (by omega), em, ek]
      by_cases hq : q = m
      · subst hq; rw [if_pos rfl, if_pos ⟨by omega, by omega, hk⟩]
      · rw [if_neg hq, ih q]
        by_cases hc : 0 ≤ q ∧ q < m ∧ k ∈ rowL Ls q
        · rw [if_pos hc, if_pos ⟨hc.1, by omega, hc.2.2⟩]
        · rw [if_neg hc, if_neg (fun h => hc ⟨h.1, by omega, h.2.2⟩)]
    · rw [if_neg hk, ih q]
      by_cases hc : 0 ≤ q ∧ q < m ∧ k ∈ rowL Ls q
      · rw [if_pos hc, if_pos ⟨hc.1, by omega, hc.2.2⟩]
      · rw [if_neg hc, if_neg (fun h => ?_)]
        by_cases hq : q = m
        · subst hq; exact hk h.2.2
        · exact hc ⟨h.1, by omega, h.2.2⟩
theorem mem_inn {Ls : List (List Int)} {k q c : Int} (h0 : 0 ≤ k) (h1 : k < Ls.length) : c ∈ rowL (inn k Ls.length Ls) q ↔ c ∈ rowL Ls q ∨ (k ∈ rowL Ls q ∧ c ∈ rowL Ls k) := by
  rw [rowL_inn h0 h1 _ (Nat.le_refl _) q]
  by_cases hk : k ∈ rowL Ls q
  · have hq := rowL_nat (Ls := Ls) (q := q) (fun e => by rw [e] at hk; cases hk)
    rw [if_pos ⟨hq.1, by omega, hk⟩, mem_uni]
    exact ⟨fun h => h.elim .inl (fun h => .inr ⟨hk, h⟩), fun h => h.elim .inl (fun h => .inr h.2)⟩
  · rw [if_neg (fun h => hk h.2.2)]
    exact ⟨.inl, fun h => h.elim id (fun h => absurd h.1 hk)⟩
/-- Closed through those below. -/
def Cld (Ls : List (List Int)) (k : Nat) : Prop := ∀ (j : Nat) (r c : Int), j < k → (j : Int) ∈ rowL Ls r → c ∈ rowL Ls j → c ∈ rowL Ls r
theorem cld_step {Ls : List (List Int)} {k : Nat} (h : Cld Ls k) (h1 : k < Ls.length) : Cld (inn k Ls.length Ls) (k + 1) := by
  have hm := fun q c => mem_inn (Ls := Ls) (k := (k : Int)) (q := q) (c := c) (by omega) (by omega)
  intro j r c hj hjr hcj
  rw [hm] at hjr hcj ⊢
  rcases Nat.lt_or_eq_of_le (Nat.le_of_lt_succ hj) with hlt | rfl
  · rcases hjr with hjr | ⟨hkr, hjk⟩
    · rcases hcj with hcj | ⟨hkj, hck⟩
      · exact .inl (h j r c hlt hjr hcj)
      · exact .inr ⟨h j r k hlt hjr hkj, hck⟩
    · rcases hcj with hcj | ⟨hkj, hck⟩
      · exact .inr ⟨hkr, h j k c hlt hjk hcj⟩
      · exact .inr ⟨hkr, hck⟩
  · have hjr2 : (j : Int) ∈ rowL Ls r := hjr.elim id (fun h => h.1)
    have hcj2 : c ∈ rowL Ls j := hcj.elim id (fun h => h.2)
    exact .inr ⟨hjr2, hcj2⟩
theorem cld_outr (Ls : List (List Int)) : ∀ k, k ≤ Ls.length → Cld (outr Ls.length k Ls) k
  | 0, _ => fun j r c hj => by omega
  | k + 1, hk => by
    have ih := cld_outr Ls k (by omega)
    have hl := outr_len Ls.length Ls k
    have h := cld_step (Ls := outr Ls.length k Ls) (k := k) ih (by omega)
    rw [hl] at h; exact h
theorem clo_len (Ls : List (List Int)) : (clo Ls).length = Ls.length := outr_len _ _ _
/-- Where two lead on, the third is there. -/
def Trn (Ls : List (List Int)) : Prop := ∀ r k c : Int, k ∈ rowL Ls r → c ∈ rowL Ls k → c ∈ rowL Ls r
theorem clo_trn {Ls : List (List Int)} : Trn (clo Ls) := fun r k c h1 h2 => by
  have hk := rowL_nat (Ls := clo Ls) (q := k) (fun e => by rw [e] at h2; cases h2)
  rw [clo_len] at hk
  have h := cld_outr Ls Ls.length (Nat.le_refl _) k.toNat r c (by omega)
  rw [show ((k.toNat : Nat) : Int) = k by omega] at h
  exact h h1 h2
/-- What adding does. -/
theorem rowL_addM {Ls : List (List Int)} {cols r c q : Int} (h0 : 0 ≤ r) (h1 : r < Ls.length) : rowL (addM Ls cols r c) q = if q = r then addL cols (rowL Ls r) c else rowL Ls q := by
  rw [(addM_in h0 h1).1]; exact rowL_set h0 h1
theorem addM_len (Ls : List (List Int)) (cols r c : Int) : (addM Ls cols r c).length = Ls.length := by unfold addM; split <;> simp
theorem MRep.rlen {rs : List Rw} {cols : Int} {Ls : List (List Int)} (h : MRep rs cols Ls) (hc : cols ≤ 65536) {r : Int} : (rowL Ls r).length ≤ 65600 := by
  cases hm : mget rs r with
  | none => rw [h.none_ hm]; simp
  | some y => have := (h.some_ hm).llen; omega
/-! ### a set of either kind -/
section
variable {W0 W : World} {M : Nat → Prop} {L E F : List Ent}
theorem St.closeA (h : St W0 M W (E ++ L)) : St W0 M W (many E :: L) := by
  have h2 : St W0 M W (E ++ many ([] ++ []) :: L) := h.nilM.perm List.perm_middle.symm
  have h3 := St.closeM (F1 := []) (F2 := []) h2
  rwa [List.nil_append, List.append_nil] at h3
theorem St.close1 (h : St W0 M W E) : St W0 M W [many E] := St.closeA (by rwa [List.append_nil])
end
inductive MxF where
  | few (q c : Nat) (A : Option Addr)
  | mny (d c : Nat) (A : Option Addr) (ws : List Int)
def MxF.b : MxF → Bool
  | .few .. => false
  | .mny .. => true
def MxF.ok (n : Int) (L : List Int) : MxF → Prop
  | .few .. => S31 L ∧ (∀ x ∈ L, x < n) ∧ L.length ≤ 8
  | .mny _ _ _ ws => Rep ws n L ∧ 0 < n
theorem MxF.ok.srt {n : Int} {L : List Int} {x : MxF} (h : x.ok n L) : L.Pairwise (· < ·) := by
  cases x with
  | few => exact h.1.1
  | mny => exact Rep.srt h.1
theorem MxF.ok.lim {n : Int} {L : List Int} {x : MxF} (h : x.ok n L) : ∀ y ∈ L, 0 ≤ y ∧ y < n := by
  cases x with
  | few => exact fun y hy => ⟨(h.1.2 y hy).1, h.2.1 y hy⟩
  | mny => exact Rep.lim h.1
theorem inr_len {n : Int} {L : List Int} (hs : L.Pairwise (· < ·)) (hl : ∀ y ∈ L, 0 ≤ y ∧ y < n) (h0 : 0 ≤ n) : (L.length : Int) ≤ n := by
  have key : ∀ (L : List Int) (a : Int), a ≤ n → L.Pairwise (· < ·) → (∀ y ∈ L, a ≤ y ∧ y < n) → (L.length : Int) ≤ n - a := by
    intro L
    induction L with
    | nil => intro a ha _ _; simp; omega
    | cons x L ih =>
      intro a ha hs hl
      obtain ⟨p, q⟩ := List.pairwise_cons.1 hs
      have hx := hl x (by simp)
      have := ih (x + 1) (by omega) q (fun y hy => ⟨by have := p y hy; omega, (hl y (by simp [hy])).2⟩)
      simp only [List.length_cons]; omega
  have := key L 0 h0 hs hl
  omega
theorem MxF.ok.len {n : Int} {L : List Int} {x : MxF} (h : x.ok n L) (h0 : 0 ≤ n) : (L.length : Int) ≤ n := inr_len h.srt h.lim h0
theorem addL_addI {n x : Int} {L : List Int} (h0 : 0 ≤ x) (h1 : x < n) : addL n L x = addI L x := (addL_lim h0 h1).1
theorem St.hasP {W0 W : World} {M : Nat → Prop} {L : List Ent} (h : St W0 M W L) {i : Nat} {e : Ent} (hi : L[i]? = some e) : e.P W := (h.has e (List.mem_of_getElem? hi)).1
theorem rd_nil {W : World} {A : Option Addr} {k : IntKind} : Rd W A (ci k []) := fun j v hv => by simp [ci] at hv
/-! ### a map from numbers to their places -/
section
variable {P : Program} {ops : Array Oper} {Q : Exit → Act → World → Prop} {R : Act → Prop} {rest : List Oper} {a : Act} {D : Option Nat} {l : List Value} {W W' W0 : World} {M : Nat → Prop} {L : List Ent} {v : Value} {op : Op} {d : Nat} {ty : TypeId} {ps : String} {af : Array Edge} {gd : Option (Nat × Bool)} {dst : Option Nat}
def plv (us : List Int) (u : Int) : Int := if u ∈ us then ((us.idxOf u : Nat) : Int) else 0
def mpl (P : Program) (k e : TypeId) (b : Nat) (us : List Int) : Ent :=
  ⟨fun j => j = b, fun W => ∃ D : DataW Unit, W.ownsMap P k (plainElem P e) b us.length D ∧ Maps.Tidy D ∧ Maps.size D = us.length ∧ (∀ u : Int, Maps.has D (.int .i64 u) = decide (u ∈ us)) ∧ ∀ u : Int, D.atKey (.int .i64 u) (.lit (.int .i64 0)) = .lit (.int .i64 (plv us u)),
    fun W W' h ⟨D, ⟨es, clock, hb, rest⟩, hm⟩ => ⟨D, ⟨es, clock, (h b rfl).trans hb, rest⟩, hm⟩⟩
theorem R_lookP {k e t b : Nat} {us : List Int} {m x : Operand} {i : Int} (hP : (mpl P k e b us).P W) (K : Maps.Keyed P k) (ht : P.underlying t = some (.map k e)) (he : P.underlying e = some (.int .i64)) (hz : (zeroValue e).run P W = .ok (.int .i64 0) W)
    (hm : a.eval m = .map (some b)) (hx : a.eval x = .int .i64 i) (hkey : keyOf P k (.int .i64 i) = some (.int .i64 i)) : (execOp a.eval ⟨dst, .lookup t m x false, ty, ps, af, gd⟩).run P W = .ok (.value (.int .i64 (plv us i))) W := by
  obtain ⟨D, hD, _, _, _, hF⟩ := hP
  obtain ⟨c, hrun, hat, _⟩ := hD.lookup_int K ht he hz hkey
  have hc : c = plv us i := by
    have := hat.symm.trans (hF i)
    injection this with h1; injection h1
  subst hc
  simp [execOp, hm, hx, hrun]
theorem R_lookOk {k e t b : Nat} {us : List Int} {m x : Operand} {i : Int} (hP : (mpl P k e b us).P W) (K : Maps.Keyed P k) (ht : P.underlying t = some (.map k e)) (he : P.underlying e = some (.int .i64)) (hz : (zeroValue e).run P W = .ok (.int .i64 0) W)
    (hm : a.eval m = .map (some b)) (hx : a.eval x = .int .i64 i) (hkey : keyOf P k (.int .i64 i) = some (.int .i64 i)) : (execOp a.eval ⟨dst, .lookup t m x true, ty, ps, af, gd⟩).run P W = .ok (.value (.tuple #[.int .i64 (plv us i), .bool (decide (i ∈ us))])) W := by
  obtain ⟨D, hD, _, _, hh, hF⟩ := hP
  obtain ⟨v, pz, hrun, hv⟩ := hD.look_ok K ht hz (plainElem_int he (by decide)) hkey
  obtain ⟨c, rfl, hc, _⟩ := plainElem_int_inv he hv
  simp only [Prod.mk.injEq] at hc
  have hc2 : c = plv us i := by
    have := hc.1.symm.trans (hF i)
    injection this with h1; injection h1
  subst hc2
  rw [hh i] at hrun
  simp [execOp, hm, hx, hrun]
theorem R_lenP {k e t b : Nat} {us : List Int} {m : Operand} (hP : (mpl P k e b us).P W) (ht : P.underlying t = some (.map k e)) (hm : a.eval m = .map (some b)) :
    (execOp a.eval ⟨dst, .call { callee := .builtin .len, args := #[m], argTypes := #[t] }, ty, ps, af, gd⟩).run P W = .ok (.value (.int .i64 (us.length : Int))) W := by
  obtain ⟨D, hD, _, hs, _, _⟩ := hP
  have h := hD.len ht ty
  rw [hs] at h
  simp [execOp, resolve, invoke, builtin, hm, h]
theorem plv_snoc_same {us : List Int} {x : Int} (hx : x ∉ us) : plv (us ++ [x]) x = us.length := by
  unfold plv
  rw [if_pos (by simp), List.idxOf_append, if_neg hx]
  simp
theorem plv_snoc_other {us : List Int} {x y : Int} (hy : y ≠ x) : plv (us ++ [x]) y = plv us y := by
  unfold plv
  by_cases h : y ∈ us
  · rw [if_pos (by simp [h]), if_pos h, List.idxOf_append, if_pos h]
  · rw [if_neg (by simp [h, hy]), if_neg h]
theorem St.putPlace (HS : St W0 M W L) {k e t b i : Nat} {us : List Int} {x : Int} (hi : L[i]? = some (mpl P k e b us)) (K : Maps.Keyed P k) (ht : P.underlying t = some (.map k e)) (he : P.underlying e = some (.int .i64)) (hn : us.length < maxLen)
    (hkey : keyOf P k (.int .i64 x) = some (.int .i64 x)) (hx : x ∉ us) (hu : (Lit.int .i64 (us.length : Int)).wf = true) : ∃ w', (Instr.mapUpdate t (.map (some b)) (.int .i64 x) (.int .i64 (us.length : Int))).run P W = .ok () w' ∧ St W0 M w' (L.set i (mpl P k e b (us ++ [x]))) := by
  obtain ⟨D, hD, hT, hs, hh, hF⟩ := HS.get hi
  obtain ⟨w', hrun, hD', hg⟩ := hD.update K ht hn hkey (plainElem_int he hu)
  have hlt := HS.lt hi (k := b) rfl
  refine ⟨w', hrun, HS.upd hi (Kpt.of_grown hg (fun k hk => by injection hk with hk; exact hk.symm)) ⟨_, by rw [List.length_append]; exact hD', hT.put (K.key hkey) _, ?_, fun u => ?_, fun u => ?_⟩ (fun k hk => ⟨.inl hk, by cases hk; exact Nat.lt_of_lt_of_le hlt hg.size⟩)⟩
  · rw [Maps.size_put hT, hh x, decide_eq_false hx, hs]; simp
  · by_cases e : u = x
    · subst e; rw [Maps.has_put_same hT.isMap (K.key hkey)]; simp
    · rw [Maps.has_put_other (by intro h; injection h with h1 h2; exact e h2), hh u]
      exact decide_eq_decide.2 (by simp [e])
  · by_cases e : u = x
    · subst e; rw [Maps.atKey_put_same hT.isMap (K.key hkey), plv_snoc_same hx]
    · rw [Maps.atKey_put_other (by intro h; injection h with h1 h2; exact e h2), hF u, plv_snoc_other e]
theorem kmuP {k e t b : Nat} {us : List Int} {m x y : Operand} {u : Int} (HS : St W0 M W L) (i : Nat) (hi : L[i]? = some (mpl P k e b us)) (K : Maps.Keyed P k) (ht : P.underlying t = some (.map k e)) (he : P.underlying e = some (.int .i64)) (hn : us.length < maxLen)
    (hw : Region.wanted ⟨none, .mapUpdate t m x y, ty, ps, af, gd⟩ (yielded ops (FrG D l).tmps) = true) (hm : (FrG D l).eval m = .map (some b)) (hx : (FrG D l).eval x = .int .i64 u) (hy : (FrG D l).eval y = .int .i64 (us.length : Int)) (hu : (Lit.int .i64 (us.length : Int)).wf = true) (hkey : keyOf P k (.int .i64 u) = some (.int .i64 u)) (hnx : u ∉ us)
    (h : ∀ W', St W0 M W' (L.set i (mpl P k e b (us ++ [u]))) → wpList P ops Q rest (FrG D l) W') : wpList P ops Q (⟨none, .mapUpdate t m x y, ty, ps, af, gd⟩ :: rest) (FrG D l) W := by
  obtain ⟨w', hrun, hS⟩ := HS.putPlace hi K ht he hn hkey hnx hu
  exact qk (W' := w') hw (by simp [execOp, hm, hx, hy, hrun]) (h w' hS)
theorem kmiP {k e t b : Nat} {us : List Int} {m x y : Operand} {u : Int} (HS : St W0 M W L) (i : Nat) (hi : L[i]? = some (mpl P k e b us)) (K : Maps.Keyed P k) (ht : P.underlying t = some (.map k e)) (he : P.underlying e = some (.int .i64)) (hn : us.length < maxLen)
    (hw : Region.wanted ⟨none, .insert t m x y, ty, ps, af, gd⟩ (yielded ops (FrG D l).tmps) = true) (hm : (FrG D l).eval m = .map (some b)) (hx : (FrG D l).eval x = .int .i64 u) (hy : (FrG D l).eval y = .int .i64 (us.length : Int)) (hu : (Lit.int .i64 (us.length : Int)).wf = true) (hkey : keyOf P k (.int .i64 u) = some (.int .i64 u)) (hnx : u ∉ us)
    (h : ∀ W', St W0 M W' (L.set i (mpl P k e b (us ++ [u]))) → wpList P ops Q rest (FrG D l) W') : wpList P ops Q (⟨none, .insert t m x y, ty, ps, af, gd⟩ :: rest) (FrG D l) W := by
  obtain ⟨w', hrun, hS⟩ := HS.putPlace hi K ht he hn hkey hnx hu
  exact qk (W' := w') hw (by simp [execOp, hm, hx, hy, hrun]) (h w' hS)
theorem kmmP {t : Nat} (HS : St W0 M W L) (k e : TypeId) (hw : Region.wanted ⟨some d, .makeMap t none, ty, ps, af, gd⟩ (yielded ops (FrG D l).tmps) = true)
    (h : ∀ b W', St W0 M W' (mpl P k e b [] :: L) → wpList P ops Q rest (FrG D (l.set d (.map (some b)))) W') : wpList P ops Q (⟨some d, .makeMap t none, ty, ps, af, gd⟩ :: rest) (FrG D l) W := by
  refine qw (W' := W.alloc (.map #[] 0)) (.map (some W.heap.size)) hw (by simp [execOp, Instr.makeMap]) (h _ _ (HS.new (.alloc _ _) ⟨_, World.ownsMap_made W P k _, Maps.tidy_empty, rfl, fun u => by simp [Maps.has_eq], fun u => by simp [plv]; rfl⟩ (fun j hj => ?_)))
  cases hj
  exact ⟨Nat.le_refl _, by simp⟩
end

/-! ### what is known of universal regions -/
def ownB (n : Int) (l : List (Int × Int)) : List (Int × Int) := l.filter fun b => decide (0 ≤ b.1 ∧ b.1 < n ∧ 0 ≤ b.2 ∧ b.2 < n)
def nam (us : List Int) (u : Int) : List Int := if u ∈ us then us else us ++ [u]
def plcs (us : List Int) (l : List (Int × Int)) : List Int := l.foldl (fun us b => nam (nam us b.1) b.2) us
def kUs (n : Int) (l : List (Int × Int)) : List Int := plcs [0] (ownB n l)
def kMat (us : List Int) (l : List (Int × Int)) : List (List Int) := l.foldl (fun Ls b => addM Ls us.length (plv us b.1) (plv us b.2)) (List.replicate us.length [])
def kLs (n : Int) (l : List (Int × Int)) : List (List Int) := clo (kMat (kUs n l) (ownB n l))
def knB (n : Int) (l : List (Int × Int)) (a c : Int) : Bool :=
  decide (0 ≤ a ∧ a < n ∧ 0 ≤ c ∧ c < n ∧ (a = c ∨ a = 0 ∨ (a ∈ kUs n l ∧ (0 ∈ rowL (kLs n l) (plv (kUs n l) a) ∨ (c ∈ kUs n l ∧ plv (kUs n l) c ∈ rowL (kLs n l) (plv (kUs n l) a))))))
theorem nam_sub {us : List Int} {u x : Int} (h : x ∈ us) : x ∈ nam us u := by unfold nam; split <;> simp [h]
theorem nam_self (us : List Int) (u : Int) : u ∈ nam us u := by
  unfold nam; split
  · assumption
  · simp
theorem nam_head {us : List Int} {u z : Int} (h : us.head? = some z) : (nam us u).head? = some z := by
  unfold nam; split
  · exact h
  · cases us with
    | nil => cases h
    | cons a us => exact h
theorem nam_len (us : List Int) (u : Int) : (nam us u).length ≤ us.length + 1 := by unfold nam; split <;> simp
theorem plcs_snoc (us : List Int) (l : List (Int × Int)) (b : Int × Int) : plcs us (l ++ [b]) = nam (nam (plcs us l) b.1) b.2 := by simp [plcs]
theorem plcs_head : ∀ (l : List (Int × Int)) (us : List Int) (z : Int), us.head? = some z → (plcs us l).head? = some z
  | [], _, _, h => h
  | b :: l, us, z, h => plcs_head l _ z (nam_head (nam_head h))
theorem plcs_sub : ∀ (l : List (Int × Int)) (us : List Int) (x : Int), x ∈ us → x ∈ plcs us l
  | [], _, _, h => h
  | b :: l, us, x, h => plcs_sub l _ x (nam_sub (nam_sub h))
theorem plcs_mem : ∀ (l : List (Int × Int)) (us : List Int) (b : Int × Int), b ∈ l → b.1 ∈ plcs us l ∧ b.2 ∈ plcs us l
  | [], _, _, h => nomatch h
  | c :: l, us, b, h => by
    rcases List.mem_cons.1 h with rfl | h
    · exact ⟨plcs_sub l _ _ (nam_sub (nam_self _ _)), plcs_sub l _ _ (nam_self _ _)⟩
    · exact plcs_mem l _ b h
theorem plcs_len : ∀ (l : List (Int × Int)) (us : List Int), (plcs us l).length ≤ us.length + 2 * l.length
  | [], us => by simp [plcs]
  | b :: l, us => by
    have h := plcs_len l (nam (nam us b.1) b.2)
    have h1 := nam_len us b.1
    have h2 := nam_len (nam us b.1) b.2
    show (plcs (nam (nam us b.1) b.2) l).length ≤ _
    simp only [List.length_cons]; omega
theorem plv_inj {us : List Int} {x y : Int} (hx : x ∈ us) (hy : y ∈ us) (h : plv us x = plv us y) : x = y := by
  unfold plv at h
  rw [if_pos hx, if_pos hy] at h
  have h2 : us.idxOf x = us.idxOf y := by omega
  have e1 := List.getElem_idxOf (List.idxOf_lt_length_of_mem hx)
  have e2 := List.getElem_idxOf (List.idxOf_lt_length_of_mem hy)
  rw [← e1, ← e2]; congr 1
theorem plv_rng {us : List Int} {x : Int} (hx : x ∈ us) : 0 ≤ plv us x ∧ plv us x < us.length := by
  unfold plv; rw [if_pos hx]
  have := List.idxOf_lt_length_of_mem hx
  omega
theorem plv_0 {us : List Int} (h : us.head? = some 0) : plv us 0 = 0 ∧ 0 ∈ us := by
  cases us with
  | nil => cases h
  | cons a us =>
    have e : a = 0 := Option.some.inj h
    subst e
    exact ⟨by unfold plv; simp, by simp⟩
theorem kMat_aux {us : List Int} : ∀ (l : List (Int × Int)) (Ls : List (List Int)), Ls.length = us.length → (∀ b ∈ l, b.1 ∈ us ∧ b.2 ∈ us) →
    (l.foldl (fun Ls b => addM Ls us.length (plv us b.1) (plv us b.2)) Ls).length = us.length ∧ ∀ r c : Int, c ∈ rowL (l.foldl (fun Ls b => addM Ls us.length (plv us b.1) (plv us b.2)) Ls) r ↔ c ∈ rowL Ls r ∨ ∃ b ∈ l, plv us b.1 = r ∧ plv us b.2 = c
  | [], Ls, hl, _ => ⟨hl, fun r c => by simp⟩
  | b :: l, Ls, hl, h => by
    have hb := h b (by simp)
    have h1 := plv_rng hb.1
    have h2 := plv_rng hb.2
    have ih := kMat_aux l (addM Ls us.length (plv us b.1) (plv us b.2)) (by rw [addM_len, hl]) (fun x hx => h x (by simp [hx]))
    refine ⟨ih.1, fun r c => ?_⟩
    show c ∈ rowL (l.foldl _ _) r ↔ _
    rw [ih.2, rowL_addM h1.1 (by rw [hl]; exact h1.2)]
    split
    · rename_i hr
      subst hr
      rw [addL_addI h2.1 h2.2, mem_addI]
      constructor
      · rintro ((rfl | k) | ⟨x, hx, e⟩)
        · exact .inr ⟨b, by simp, rfl, rfl⟩
        · exact .inl k
        · exact .inr ⟨x, by simp [hx], e⟩
      · rintro (k | ⟨x, hx, e1, e2⟩)
        · exact .inl (.inr k)
        · rcases List.mem_cons.1 hx with rfl | hx
          · exact .inl (.inl e2.symm)
          · exact .inr ⟨x, hx, e1, e2⟩
    · rename_i hr
      constructor
      · rintro (k | ⟨x, hx, e⟩)
        · exact .inl k
        · exact .inr ⟨x, by simp [hx], e⟩
      · rintro (k | ⟨x, hx, e1, e2⟩)
        · exact .inl k
        · rcases List.mem_cons.1 hx with rfl | hx
          · exact absurd e1.symm hr
          · exact .inr ⟨x, hx, e1, e2⟩
theorem rowL_rep (n : Nat) (r : Int) : rowL (List.replicate n []) r = [] := by
  unfold rowL; split
  · rw [List.getD_eq_getElem?_getD, List.getElem?_replicate]; split <;> rfl
  · rfl
theorem mem_kMat {us : List Int} {l : List (Int × Int)} (h : ∀ b ∈ l, b.1 ∈ us ∧ b.2 ∈ us) {r c : Int} : c ∈ rowL (kMat us l) r ↔ ∃ b ∈ l, plv us b.1 = r ∧ plv us b.2 = c := by
  unfold kMat
  rw [(kMat_aux l _ (by simp) h).2, rowL_rep]; simp
theorem kMat_len {us : List Int} {l : List (Int × Int)} (h : ∀ b ∈ l, b.1 ∈ us ∧ b.2 ∈ us) : (kMat us l).length = us.length := (kMat_aux l _ (by simp) h).1
theorem kMat_snoc (us : List Int) (l : List (Int × Int)) (b : Int × Int) : kMat us (l ++ [b]) = addM (kMat us l) us.length (plv us b.1) (plv us b.2) := by simp [kMat]
inductive TG (Ls : List (List Int)) : Int → Int → Prop where
  | base {r c : Int} : c ∈ rowL Ls r → TG Ls r c
  | trans {r k c : Int} : TG Ls r k → TG Ls k c → TG Ls r c
theorem outr_tg {Ls : List (List Int)} : ∀ (k : Nat), k ≤ Ls.length → ∀ {r c : Int}, c ∈ rowL (outr Ls.length k Ls) r → TG Ls r c
  | 0, _, r, c, h => .base h
  | k + 1, hk, r, c, h => by
    have hl := outr_len Ls.length Ls k
    have h2 : c ∈ rowL (inn (k : Int) (outr Ls.length k Ls).length (outr Ls.length k Ls)) r := by rw [hl]; exact h
    rcases (mem_inn (by omega) (by rw [hl]; omega)).1 h2 with h3 | ⟨h3, h4⟩
    · exact outr_tg k (by omega) h3
    · exact .trans (outr_tg k (by omega) h3) (outr_tg k (by omega) h4)
theorem outr_sub {Ls : List (List Int)} : ∀ (k : Nat), k ≤ Ls.length → ∀ {r c : Int}, c ∈ rowL Ls r → c ∈ rowL (outr Ls.length k Ls) r
  | 0, _, r, c, h => h
  | k + 1, hk, r, c, h => by
    have hl := outr_len Ls.length Ls k
    have h2 : c ∈ rowL (inn (k : Int) (outr Ls.length k Ls).length (outr Ls.length k Ls)) r := (mem_inn (by omega) (by rw [hl]; omega)).2 (.inl (outr_sub k (by omega) h))
    rw [hl] at h2; exact h2
theorem mem_clo {Ls : List (List Int)} {r c : Int} : c ∈ rowL (clo Ls) r ↔ TG Ls r c :=
  ⟨fun h => outr_tg _ (Nat.le_refl _) h, fun h => by
    induction h with
    | base h => exact outr_sub _ (Nat.le_refl _) h
    | trans _ _ h1 h2 => exact clo_trn _ _ _ h1 h2⟩
/-- Who outlives whom, by bounds. -/
inductive Rc (E : List (Int × Int)) : Int → Int → Prop where
  | refl (a : Int) : Rc E a a
  | zero (c : Int) : Rc E 0 c
  | step {a b c : Int} : (a, b) ∈ E → Rc E b c → Rc E a c
theorem Rc.trans {E : List (Int × Int)} {a b c : Int} (h : Rc E a b) (k : Rc E b c) : Rc E a c := by
  induction h with
  | refl => exact k
  | zero => exact .zero c
  | step h _ ih => exact .step h (ih k)
theorem mem_ownB {n : Int} {l : List (Int × Int)} {b : Int × Int} : b ∈ ownB n l ↔ b ∈ l ∧ 0 ≤ b.1 ∧ b.1 < n ∧ 0 ≤ b.2 ∧ b.2 < n := by unfold ownB; simp [List.mem_filter]
theorem kUs_head (n : Int) (l : List (Int × Int)) : (kUs n l).head? = some 0 := plcs_head _ _ _ rfl
theorem kUs_ok (n : Int) (l : List (Int × Int)) : ∀ b ∈ ownB n l, b.1 ∈ kUs n l ∧ b.2 ∈ kUs n l := fun b hb => plcs_mem _ _ b hb
theorem kUs_len (n : Int) (l : List (Int × Int)) : (kUs n l).length ≤ 1 + 2 * l.length := by
  have h := plcs_len (ownB n l) [0]
  have h2 : (ownB n l).length ≤ l.length := List.length_filter_le _ _
  show (plcs [0] (ownB n l)).length ≤ _
  simp only [List.length_singleton] at h; omega
theorem tg_end {us : List Int} {l : List (Int × Int)} (h : ∀ b ∈ l, b.1 ∈ us ∧ b.2 ∈ us) {r c : Int} (t : TG (kMat us l) r c) : (∃ z ∈ us, plv us z = r) ∧ ∃ z ∈ us, plv us z = c := by
  induction t with
  | base k => obtain ⟨b, hb, e1, e2⟩ := (mem_kMat h).1 k; exact ⟨⟨_, (h b hb).1, e1⟩, ⟨_, (h b hb).2, e2⟩⟩
  | trans _ _ h1 h2 => exact ⟨h1.1, h2.2⟩
theorem tg_rc {us : List Int} {l : List (Int × Int)} (h : ∀ b ∈ l, b.1 ∈ us ∧ b.2 ∈ us) {r c : Int} (t : TG (kMat us l) r c) : ∀ x ∈ us, ∀ y ∈ us, plv us x = r → plv us y = c → Rc l x y := by
  induction t with
  | base k =>
    intro x hx y hy e1 e2
    obtain ⟨b, hb, e3, e4⟩ := (mem_kMat h).1 k
    have h1 := plv_inj hx (h b hb).1 (e1.trans e3.symm)
    have h2 := plv_inj hy (h b hb).2 (e2.trans e4.symm)
    subst h1; subst h2
    exact .step hb (.refl _)
  | trans t1 _ h1 h2 =>
    intro x hx y hy e1 e2
    obtain ⟨z, hz, e3⟩ := (tg_end h t1).2
    exact (h1 x hx z hz e1 e3).trans (h2 z hz y hy e3 e2)
theorem knB_iff {n : Int} {l : List (Int × Int)} {a c : Int} : knB n l a c = true ↔ (0 ≤ a ∧ a < n) ∧ (0 ≤ c ∧ c < n) ∧ Rc (ownB n l) a c := by
  have hok := kUs_ok n l
  obtain ⟨hz, hz2⟩ := plv_0 (kUs_head n l)
  unfold knB
  rw [decide_eq_true_iff]
  constructor
  · rintro ⟨a0, a1, c0, c1, h⟩
    refine ⟨⟨a0, a1⟩, ⟨c0, c1⟩, ?_⟩
    rcases h with rfl | rfl | ⟨ha, h | ⟨hc, h⟩⟩
    · exact .refl _
    · exact .zero _
    · exact (tg_rc hok (mem_clo.1 h) a ha 0 hz2 rfl hz).trans (.zero c)
    · exact tg_rc hok (mem_clo.1 h) a ha c hc rfl rfl
  · rintro ⟨⟨a0, a1⟩, ⟨c0, c1⟩, h⟩
    refine ⟨a0, a1, c0, c1, ?_⟩
    have key : ∀ {a c : Int}, Rc (ownB n l) a c → (a = c ∨ a = 0 ∨ (a ∈ kUs n l ∧ (0 ∈ rowL (kLs n l) (plv (kUs n l) a) ∨ (c ∈ kUs n l ∧ plv (kUs n l) c ∈ rowL (kLs n l) (plv (kUs n l) a))))) := fun {a c} h => by
      induction h with
      | refl => exact .inl rfl
      | zero => exact .inr (.inl rfl)
      | @step a b c hb _ ih =>
        have hu := hok _ hb
        have e : plv (kUs n l) b ∈ rowL (kLs n l) (plv (kUs n l) a) := mem_clo.2 (.base ((mem_kMat hok).2 ⟨_, hb, rfl, rfl⟩))
        refine .inr (.inr ⟨hu.1, ?_⟩)
        rcases ih with rfl | rfl | ⟨_, h0 | ⟨hc, hr⟩⟩
        · exact .inr ⟨hu.2, e⟩
        · exact .inl (hz ▸ e)
        · exact .inl (clo_trn _ _ _ e h0)
        · exact .inr ⟨hc, clo_trn _ _ _ e hr⟩
    exact key h
theorem knB_zero {n : Int} {l : List (Int × Int)} {c : Int} (h0 : 0 ≤ c) (h1 : c < n) : knB n l 0 c = true := knB_iff.2 ⟨by omega, ⟨h0, h1⟩, .zero c⟩
theorem knB_out {n : Int} {l : List (Int × Int)} {a c : Int} (h : ¬ ((0 ≤ a ∧ a < n) ∧ 0 ≤ c ∧ c < n)) : knB n l a c = false := by
  rw [← Bool.not_eq_true]; exact fun k => h ⟨(knB_iff.1 k).1, (knB_iff.1 k).2.1⟩
theorem Rc.mono {E F : List (Int × Int)} (h : ∀ b ∈ E, Rc F b.1 b.2) {a c : Int} (k : Rc E a c) : Rc F a c := by
  induction k with
  | refl => exact .refl _
  | zero => exact .zero _
  | step hb _ ih => exact (h _ hb).trans ih
def rgI (n : Int) : List Int := (List.range n.toNat).map fun j : Nat => (j : Int)
theorem mem_rgI {n x : Int} : x ∈ rgI n ↔ 0 ≤ x ∧ x < n := by
  unfold rgI; rw [List.mem_map]
  constructor
  · rintro ⟨j, hj, rfl⟩; have := List.mem_range.1 hj; omega
  · intro h; exact ⟨x.toNat, List.mem_range.2 (by omega), by omega⟩
def subsL (n : Int) (l : List (Int × Int)) (a : Int) (k : Int) : List Int := (rgI k).filter fun c => knB n l a c
def supsL (n : Int) (l : List (Int × Int)) (c : Int) (k : Int) : List Int := (rgI k).filter fun a => knB n l a c
def bndR (n : Int) (l : List (Int × Int)) (a : Int) : List (Int × Int) := ((subsL n l a n).filter fun c => decide (c ≠ a)).map fun c => (a, c)
def bndL (n : Int) (l : List (Int × Int)) : List (Int × Int) := ((rgI n).filter fun a => decide (1 ≤ a)).flatMap (bndR n l)
def allK (n : Int) (l m : List (Int × Int)) : Bool := m.all fun b => knB n l b.1 b.2
/-! ### a row of pairs: what is left of it -/
section
variable {P : Program} {ops : Array Oper} {Q : Exit → Act → World → Prop} {R : Act → Prop} {rest : List Oper} {a : Act} {D : Option Nat} {l : List Value} {W W' W0 : World} {M : Nat → Prop} {L : List Ent} {v : Value} {op : Op} {d : Nat} {ty : TypeId} {ps : String} {af : Array Edge} {gd : Option (Nat × Bool)} {dst : Option Nat}
theorem St.openRowZ (HS : St W0 M W L) {i g n c t z : Nat} {cs : List Value} (hi : L[i]? = some (row (some ⟨g, 0, none⟩) n c cs t z)) :
    ∃ sp : List Value, cs.length = n * z ∧ n ≤ c ∧ c ≤ maxLen ∧ (cs ++ sp).length = c * z ∧ St W0 M W (L.set i (blk g (cs ++ sp) t)) := by
  have hr := HS.rowE hi
  rcases hr.2 with ⟨e, _⟩ | ⟨g', cap, cur, e, hb, hg, h1, h2, h3, h4⟩
  · cases e
  · cases e
    have hl : cs.length = n * z := hr.1
    have hcur : (cs ++ cur.toList.drop (n * z)) = cur.toList := by rw [← h4, List.take_append_drop]
    refine ⟨cur.toList.drop (n * z), hl, h1, h2, by rw [hcur]; simpa using h3, HS.turn hi (fun _ => ?_) (fun k hk => by cases hk; rfl)⟩
    show W.heap[g]? = _
    rw [hcur]
    simpa using hg
theorem St.closeRowZ (HS : St W0 M W L) {i g t z : Nat} {cs : List Value} (hi : L[i]? = some (blk g cs t)) (n c : Nat) (xs : List Value) (hc : cs.length = c * z) (hx : cs.take (n * z) = xs) (hn : n ≤ c) (hm : c ≤ maxLen) :
    St W0 M W (L.set i (row (some ⟨g, 0, none⟩) n c xs t z)) := by
  subst hx
  have hnz : n * z ≤ c * z := Nat.mul_le_mul_right _ hn
  exact HS.turn hi (fun p => ⟨by rw [List.length_take]; omega, .inr ⟨g, c, cs.toArray, rfl, Nat.zero_le _, p, hn, hm, by simpa using hc, by simp⟩⟩) (fun k hk => by have : some g = some k := hk; cases this; rfl)
theorem run_clear2 (w : World) (t e ty : TypeId) (z y : Value) (ht : P.underlying t = some (.slice e)) (hv : ∀ w, (zeroValue e).run P w = .ok z w) (hz : z.cells = #[y, y]) (h1 : y.oneCell' = true) (b o n c : Nat) (hn : 0 < n)
    (hc : ∀ j, j < n * 2 → (w.cell? ⟨b, o + j, none⟩).isSome = true) (hf : ∀ j, j < n * 2 → w.frozen? ⟨b, o + j, none⟩ = false) :
    (Builtin.clear_ #[t] ty #[.slice (some ⟨b, o, none⟩) n c]).run P w = .ok (.tuple #[]) (w.setCells b o (List.replicate (n * 2) y)) := by
  have hzc : (Builtin.zeroCells z.cells n).toList = List.replicate (n * 2) y := by
    rw [hz]
    simp [Builtin.zeroCells]
    apply List.ext_getElem
    · simp [Nat.mul_comm]
    · intro i h1 h2
      have : i % 2 = 0 ∨ i % 2 = 1 := by omega
      rcases this with h | h <;> simp [h]
  have hst := run_storeCells_cells (P := P) b o (List.replicate (n * 2) y) 0 w (by simpa using hc) (by simpa using hf) (by intro v hv'; rw [List.eq_of_mem_replicate hv']; exact h1)
  simp only [Nat.add_zero] at hst
  obtain ⟨m, rfl⟩ : ∃ m, n = m + 1 := ⟨n - 1, by omega⟩
  simp [Builtin.clear_, run_underlying ht, hv, hzc, hst]
theorem kclr2 {t e : TypeId} {x : Operand} (HS : St W0 M W L) (i : Nat) {g o n c tb : Nat} {cs : List Value} {z y : Value} (hi : L[i]? = some (blk g cs tb))
    (hw : Region.wanted ⟨none, .call { callee := .builtin .clear, args := #[x], argTypes := #[t] }, ty, ps, af, gd⟩ (yielded ops (FrG D l).tmps) = true)
    (hx : (FrG D l).eval x = .slice (some ⟨g, o, none⟩) n c) (ht : P.underlying t = some (.slice e)) (hz : ((P.info? e).bind (·.zero)) = some z) (hzc : z.cells = #[y, y]) (h1 : y.oneCell' = true) (h0 : 0 < n) (hfit : o + n * 2 ≤ cs.length)
    (h : ∀ W', St W0 M W' (L.set i (blk g (splice cs o (List.replicate (n * 2) y)) tb)) → wpList P ops Q rest (FrG D l) W') :
    wpList P ops Q (⟨none, .call { callee := .builtin .clear, args := #[x], argTypes := #[t] }, ty, ps, af, gd⟩ :: rest) (FrG D l) W := by
  have hg := HS.blkE hi
  have hv : ∀ w, (zeroValue e).run P w = .ok z w := fun w => by
    cases hq : P.info? e with
    | none => rw [hq] at hz; cases hz
    | some ti => rw [hq] at hz; have hz' : ti.zero = some z := by simpa using hz
                 simp [zeroValue, typeInfo, hq, hz']
  have hr := run_clear2 (P := P) W t e ty z y ht hv hzc h1 g o n c h0 (fun j hj => by
      have : o + j < cs.length := by omega
      simp [World.cell?, hg, this]) (fun j hj => by simp [World.frozen?, hg])
  rw [setCells_row _ o cs.toArray W hg (by simp; omega), show cs.toArray.toList = cs by simp] at hr
  refine qw' (.tuple #[]) hw ?_ (h _ (HS.setBlk hi))
  simp only [execOp, resolve, invoke, builtin, List.map_toArray, List.map_cons, List.map_nil, hx]
  simp [hr]
theorem cutA_at2 {g c k : Nat} (h : k < c) : cutA (some ⟨g, 0, none⟩) c k 2 = some ⟨g, k * 2, none⟩ := by
  unfold cutA; rw [if_neg (by omega)]; simp [Addr.add_lit]
end
def prC (b : Int × Int) : List Value := [.int .i64 b.1, .int .i64 b.2]
theorem cf_takeM {α : Type} {f : α → List Value} {z : Nat} (hf : ∀ x, (f x).length = z) (xs : List α) : ∀ k, (cf f xs).take (k * z) = cf f (xs.take k) := by
  induction xs with
  | nil => intro k; simp [cf]
  | cons x xs ih =>
    intro k
    cases k with
    | zero => simp [cf]
    | succ k =>
      have e : cf f (x :: xs) = f x ++ cf f xs := by simp [cf]
      rw [e, List.take_succ_cons, show cf f (x :: xs.take k) = f x ++ cf f (xs.take k) by simp [cf], Nat.succ_mul, List.take_append, hf x, show k * z + z - z = k * z by omega, ih k]
      congr 1
      exact List.take_of_length_le (by rw [hf x]; omega)
/-- What a filter in place has come to: what stays stands in front, what is still to be looked at behind. -/
def DfP (p : Int × Int → Bool) (xs C : List (Int × Int)) (i j : Int) : Prop := 0 ≤ i ∧ i ≤ j ∧ j ≤ xs.length ∧ C.length = xs.length ∧ C.take i.toNat = (xs.take j.toNat).filter (fun b => !p b) ∧ C.drop j.toNat = xs.drop j.toNat
def NoP (p : Int × Int → Bool) (xs : List (Int × Int)) (k : Int) : Prop := ∀ b ∈ xs.take k.toNat, p b = false
theorem noP_0 (p : Int × Int → Bool) (xs : List (Int × Int)) : NoP p xs 0 := fun b hb => by simp at hb
theorem gx_at {xs : List (Int × Int)} {k : Int} (h0 : 0 ≤ k) (h1 : k < xs.length) : xs.take (k + 1).toNat = xs.take k.toNat ++ [gx xs k] ∧ xs.drop k.toNat = gx xs k :: xs.drop (k + 1).toNat := by
  have h := gx_eq (xs := xs) h0 h1
  have hl : k.toNat < xs.length := by omega
  have e : xs[k.toNat] = gx xs k := by rw [List.getElem?_eq_getElem hl] at h; exact Option.some.inj h
  rw [show (k + 1).toNat = k.toNat + 1 by omega]
  refine ⟨by rw [List.take_add_one, h]; rfl, ?_⟩
  rw [List.drop_eq_getElem_cons hl, e]
theorem noP_step {p : Int × Int → Bool} {xs : List (Int × Int)} {k : Int} (h : NoP p xs k) (h0 : 0 ≤ k) (h1 : k < xs.length) (hx : p (gx xs k) = false) : NoP p xs (k + 1) := fun b hb => by
  rw [(gx_at h0 h1).1, List.mem_append, List.mem_singleton] at hb
  rcases hb with hb | rfl
  · exact h b hb
  · exact hx
theorem noP_all {p : Int × Int → Bool} {xs : List (Int × Int)} {k : Int} (h : NoP p xs k) (hk : k = xs.length) : xs.any p = false ∧ xs.filter (fun b => !p b) = xs := by
  unfold NoP at h
  rw [hk, Int.toNat_natCast, List.take_length] at h
  exact ⟨List.any_eq_false.2 fun b hb => by simp [h b hb], List.filter_eq_self.2 fun b hb => by simp [h b hb]⟩
theorem noP_any {p : Int × Int → Bool} {xs : List (Int × Int)} {k : Int} (h0 : 0 ≤ k) (h1 : k < xs.length) (hx : p (gx xs k) = true) : xs.any p = true := List.any_eq_true.2 ⟨gx xs k, List.mem_of_getElem? (gx_eq h0 h1), hx⟩
theorem dfP_start {p : Int × Int → Bool} {xs : List (Int × Int)} {k : Int} (h : NoP p xs k) (h0 : 0 ≤ k) (h1 : k < xs.length) (hx : p (gx xs k) = true) : DfP p xs xs k (k + 1) := by
  refine ⟨h0, by omega, by omega, rfl, ?_, rfl⟩
  rw [(gx_at h0 h1).1, List.filter_append, List.filter_eq_self.2 (fun b hb => by simp [h b hb]), List.filter_cons_of_neg (by simp [hx]), List.filter_nil, List.append_nil]
theorem dfP_gx {p : Int × Int → Bool} {xs C : List (Int × Int)} {i j : Int} (h : DfP p xs C i j) (h1 : j < xs.length) : gx C j = gx xs j := by
  obtain ⟨a, b, c, d, e, f⟩ := h
  have e1 := (gx_at (xs := C) (k := j) (by omega) (by omega)).2
  have e2 := (gx_at (xs := xs) (k := j) (by omega) h1).2
  rw [f, e2] at e1
  exact (List.cons.inj e1).1.symm
theorem dfP_skip {p : Int × Int → Bool} {xs C : List (Int × Int)} {i j : Int} (h : DfP p xs C i j) (h1 : j < xs.length) (hx : p (gx xs j) = true) : DfP p xs C i (j + 1) := by
  obtain ⟨a, b, c, d, e, f⟩ := h
  refine ⟨a, by omega, by omega, d, ?_, ?_⟩
  · rw [e, (gx_at (by omega) h1).1, List.filter_append, List.filter_cons_of_neg (by simp [hx]), List.filter_nil, List.append_nil]
  · have e1 := (gx_at (xs := C) (k := j) (by omega) (by omega)).2
    have e2 := (gx_at (xs := xs) (k := j) (by omega) h1).2
    rw [f, e2] at e1
    exact (List.cons.inj e1).2.symm
theorem dfP_put {p : Int × Int → Bool} {xs C : List (Int × Int)} {i j : Int} (h : DfP p xs C i j) (hij : i < j) (h1 : j < xs.length) (hx : p (gx xs j) = false) : DfP p xs (C.set i.toNat (gx xs j)) (i + 1) (j + 1) := by
  have hd := (gx_at (xs := C) (k := j) (by have := h.1; omega) (by have := h.2.2.2.1; omega)).2
  have hd2 := (gx_at (xs := xs) (k := j) (by have := h.1; omega) h1).2
  obtain ⟨a, b, c, d, e, f⟩ := h
  rw [f, hd2] at hd
  refine ⟨by omega, by omega, by omega, by rw [List.length_set, d], ?_, ?_⟩
  · rw [(gx_at (by omega) h1).1, List.filter_append, List.filter_cons_of_pos (by simp [hx]), List.filter_nil, ← e, show (i + 1).toNat = i.toNat + 1 by omega, List.take_add_one, List.getElem?_set_self (by omega)]
    rw [List.take_set_of_le (Nat.le_refl _)]; rfl
  · rw [List.drop_set_of_lt (by omega)]; exact (List.cons.inj hd).2.symm
theorem dfP_end {p : Int × Int → Bool} {xs C : List (Int × Int)} {i j : Int} (h : DfP p xs C i j) (hj : j = xs.length) : C.take i.toNat = xs.filter (fun b => !p b) := by
  rw [h.2.2.2.2.1, hj, Int.toNat_natCast, List.take_length]
theorem mpl_old {P : Program} {k e b : Nat} {us : List Int} {W W' : World} {L : List Ent} (h : (mpl P k e b us).P W) (HS : St W (owns []) W' L) : (mpl P k e b us).P W' := by
  obtain ⟨D, hD, hm⟩ := h
  have hb := HS.kept.below owns_nil
  obtain ⟨es, clock, hblk, rest⟩ := hD
  have hlt : b < W.heap.size := by
    rcases Nat.lt_or_ge b W.heap.size with h | h
    · exact h
    · rw [Array.getElem?_eq_none h] at hblk; cases hblk
  exact ⟨D, ⟨es, clock, (hb.block b hlt).trans hblk, rest⟩, hm⟩
structure KnX where
  b : Nat
  g : Nat
  cr : Nat
  R : Option Addr
  rs : List Rw
  us : List Int
def knE (P : Program) (tk mk me tmx tp ts tu : Nat) (k : Nat) (n : Int) (x : KnX) : List Ent :=
  [blk k [.int .i64 n, .map (some x.b), .pointer (some ⟨x.g, 0, none⟩)] tk, mpl P mk me x.b x.us, blk x.g [.slice x.R x.rs.length x.cr, .int .i64 (x.us.length : Int)] tmx, row x.R x.rs.length x.cr (cf cpt x.rs) tp 1, many (rsE ts tu (x.us.length : Int) x.rs)]
structure KnX.ok (n : Int) (l : List (Int × Int)) (x : KnX) : Prop where
  us : x.us = kUs n l
  rep : MRep x.rs (x.us.length : Int) (kLs n l)
theorem kn_P {P : Program} {tk mk me tmx tp ts tu k : Nat} {n : Int} {x : KnX} {W : World} (hP : (many (knE P tk mk me tmx tp ts tu k n x)).P W) :
    W.cell? ⟨k, 0, none⟩ = some (.int .i64 n) ∧ W.cell? ⟨k, 1, none⟩ = some (.map (some x.b)) ∧ W.cell? ⟨k, 2, none⟩ = some (.pointer (some ⟨x.g, 0, none⟩)) ∧ (mpl P mk me x.b x.us).P W ∧ Mr W x.g x.R x.cr (x.us.length : Int) x.rs := by
  have h1 := hP.1 _ (List.mem_cons_self ..)
  have h2 := hP.1 _ (List.mem_cons_of_mem _ (List.mem_cons_self ..))
  have h3 := hP.1 _ (List.mem_cons_of_mem _ (List.mem_cons_of_mem _ (List.mem_cons_self ..)))
  have h4 := hP.1 _ (List.mem_cons_of_mem _ (List.mem_cons_of_mem _ (List.mem_cons_of_mem _ (List.mem_cons_self ..))))
  have h5 := hP.1 _ (List.mem_cons_of_mem _ (List.mem_cons_of_mem _ (List.mem_cons_of_mem _ (List.mem_cons_of_mem _ (List.mem_cons_self ..)))))
  refine ⟨cell_of_blkP h1 rfl, cell_of_blkP h1 rfl, cell_of_blkP h1 rfl, h2, ⟨cell_of_blkP h3 rfl, cell_of_blkP h3 rfl, rd_of_rowP h4, fun y hy => ?_⟩⟩
  have hm := h5.1
  have a1 := hm (blk y.1 [.slice y.2.1 y.2.2.2.length y.2.2.1, .int .i64 (x.us.length : Int)] ts) (List.mem_flatMap.2 ⟨some y, hy, by simp [rsE1]⟩)
  have a2 := hm (row y.2.1 y.2.2.2.length y.2.2.1 (ci .u64 y.2.2.2) tu 1) (List.mem_flatMap.2 ⟨some y, hy, by simp [rsE1]⟩)
  exact ⟨cell_of_blkP a1 (j := 0) rfl, cell_of_blkP a1 (j := 1) rfl, rd_of_rowP a2⟩
theorem knB_eq {n : Int} {l : List (Int × Int)} {a c : Int} (ha : 0 ≤ a ∧ a < n) (hc : 0 ≤ c ∧ c < n) (h1 : ¬ a = c) (h2 : ¬ a = 0) :
    knB n l a c = (decide (a ∈ kUs n l) && (decide (0 ∈ rowL (kLs n l) (plv (kUs n l) a)) || (decide (c ∈ kUs n l) && decide (plv (kUs n l) c ∈ rowL (kLs n l) (plv (kUs n l) a))))) := by
  unfold knB
  simp [ha.1, ha.2, hc.1, hc.2, h1, h2]
theorem knB_same {n : Int} {l : List (Int × Int)} {a c : Int} (ha : 0 ≤ a ∧ a < n) (h1 : a = c) : knB n l a c = true := by subst h1; exact knB_iff.2 ⟨ha, ha, .refl _⟩
theorem rgI_snoc {k : Int} (h : 0 ≤ k) : rgI (k + 1) = rgI k ++ [k] := by
  unfold rgI
  rw [show (k + 1).toNat = k.toNat + 1 by omega, List.range_succ, List.map_append]
  simp; omega
theorem subs_t {n : Int} {l : List (Int × Int)} {a k : Int} (h : 0 ≤ k) (hx : knB n l a k = true) : subsL n l a (k + 1) = subsL n l a k ++ [k] := by unfold subsL; rw [rgI_snoc h, List.filter_append, List.filter_cons_of_pos (by simpa using hx), List.filter_nil]
theorem subs_f {n : Int} {l : List (Int × Int)} {a k : Int} (h : 0 ≤ k) (hx : knB n l a k = false) : subsL n l a (k + 1) = subsL n l a k := by unfold subsL; rw [rgI_snoc h, List.filter_append, List.filter_cons_of_neg (by simp [hx]), List.filter_nil, List.append_nil]
theorem sups_t {n : Int} {l : List (Int × Int)} {a k : Int} (h : 0 ≤ k) (hx : knB n l k a = true) : supsL n l a (k + 1) = supsL n l a k ++ [k] := by unfold supsL; rw [rgI_snoc h, List.filter_append, List.filter_cons_of_pos (by simpa using hx), List.filter_nil]
theorem sups_f {n : Int} {l : List (Int × Int)} {a k : Int} (h : 0 ≤ k) (hx : knB n l k a = false) : supsL n l a (k + 1) = supsL n l a k := by unfold supsL; rw [rgI_snoc h, List.filter_append, List.filter_cons_of_neg (by simp [hx]), List.filter_nil, List.append_nil]
theorem rgI_len (k : Int) : (rgI k).length = k.toNat := by unfold rgI; simp
theorem subs_len (n : Int) (l : List (Int × Int)) (a k : Int) : (subsL n l a k).length ≤ k.toNat := by rw [← rgI_len k]; exact List.length_filter_le _ _
theorem sups_len (n : Int) (l : List (Int × Int)) (a k : Int) : (supsL n l a k).length ≤ k.toNat := by rw [← rgI_len k]; exact List.length_filter_le _ _
theorem kLs_len (n : Int) (l : List (Int × Int)) : (kLs n l).length = (kUs n l).length := by unfold kLs; rw [clo_len, kMat_len (kUs_ok n l)]
section
variable {P : Program} {a : Act} {W W1 W0 : World} {M : Nat → Prop} {L F : List Ent} {ty : TypeId} {ps : String} {af : Array Edge} {gd : Option (Nat × Bool)} {dst : Option Nat}
theorem R_callvE {f : FuncId} {x : Operand} {caps : Array Value} {as_ : Array Operand} {ts : Array TypeId} (args : Array Value) (hx : a.eval x = .func (.func f) #[] caps) (hen : ∀ args w, (callFunc f args).run P w = .ok (.enter f args) w) (ha : as_.map a.eval ++ caps = args) :
    (execOp a.eval ⟨dst, .call { callee := .value x, args := as_, argTypes := ts }, ty, ps, af, gd⟩).run P W = .ok (.enter f args) W := by
  simp [execOp, resolve, Deferred.ofValue, invoke, hx, ← ha, hen]
/-- What else is owned stays, where only some entries' blocks may change. -/
theorem St.keepP (HS : St W0 M W (F ++ L)) (h : Kpt (owns F) W W1) {e : Ent} (he : e ∈ L) : e.P W1 :=
  have h3 := HS.has e (List.mem_append_right _ he)
  e.loc W W1 (fun k hk => h.block k (h3.2 k hk).1 (fun ⟨f, hf, hk'⟩ => (List.pairwise_append.1 HS.ne).2.2 f hf e he k hk' hk)) h3.1
theorem Kpt.ofNil {N : Nat → Prop} (h : Kpt (owns []) W W1) : Kpt N W W1 := ⟨h.os, h.tape, h.output, h.size, fun k hk _ => h.block k hk (owns_nil k)⟩
theorem Kpt.andNil {N : Nat → Prop} {A B C : World} (h : Kpt N A B) (k : Kpt (owns []) B C) : Kpt N A C := h.trans k.ofNil (fun _ hn => .inl hn)
end
theorem df_take {C ys : List (Int × Int)} {sp : List Value} {k m : Nat} {y : Value} (hk : k ≤ C.length) (hfit : k * 2 + m * 2 ≤ (cf prC C ++ sp).length) (h : C.take k = ys) : (splice (cf prC C ++ sp) (k * 2) (List.replicate (m * 2) y)).take (k * 2) = cf prC ys := by
  subst h
  have hl : (cf prC C).length = C.length * 2 := cf_len (f := prC) (z := 2) (fun _ => rfl) C
  rw [splice_eq _ _ _ (by simpa using hfit), List.append_assoc, List.take_append, List.take_take, Nat.min_self, List.length_take, List.take_append_of_le_length (by rw [hl]; omega), cf_takeM (f := prC) (z := 2) (fun _ => rfl)]
  rw [show k * 2 - min (k * 2) (cf prC C ++ sp).length = 0 by omega]; simp
theorem rd_none_nil {W : World} {l : List (Int × Int)} (h : Rd W none (cf prC l)) : l = [] := by
  cases l with
  | nil => rfl
  | cons b l => obtain ⟨ad, e, _⟩ := h 0 (.int .i64 b.1) (by simp [cf, prC]); cases e
theorem df_len {p : Int × Int → Bool} {xs C : List (Int × Int)} {i j : Int} (h : DfP p xs C i j) (hj : j = xs.length) : (xs.filter (fun b => !p b)).length = i.toNat := by
  rw [← dfP_end h hj, List.length_take]
  have h1 := h.1; have h2 := h.2.1; have h3 := h.2.2.1; have h4 := h.2.2.2.1; omega
def pOwn (n : Int) (b : Int × Int) : Bool := !(decide (0 ≤ b.1 ∧ b.1 < n) && decide (0 ≤ b.2 ∧ b.2 < n))
theorem ownB_eq (n : Int) (l : List (Int × Int)) : (l.filter fun b => !pOwn n b) = ownB n l := by
  unfold ownB
  refine List.filter_congr fun b _ => ?_
  unfold pOwn
  rw [Bool.not_not, ← Bool.decide_and]
  exact decide_eq_decide.2 ⟨fun h => ⟨h.1.1, h.1.2, h.2.1, h.2.2⟩, fun h => ⟨⟨h.1, h.2.1⟩, h.2.2.1, h.2.2.2⟩⟩
def NmP (us : List Int) (o : List (Int × Int)) (j : Int) : Prop := us = plcs [0] (o.take j.toNat)
theorem nmP_start (o : List (Int × Int)) : NmP [0] o 0 := by unfold NmP; simp [plcs]
theorem nmP_step {us : List Int} {o : List (Int × Int)} {j : Int} (h : NmP us o j) (h0 : 0 ≤ j) (h1 : j < o.length) : NmP (nam (nam us (gx o j).1) (gx o j).2) o (j + 1) := by
  unfold NmP at h ⊢
  rw [(gx_at h0 h1).1, plcs_snoc, ← h]
theorem nmP_len {us : List Int} {o : List (Int × Int)} {j : Int} (h : NmP us o j) : us.length ≤ 1 + 2 * j.toNat := by
  have h2 := plcs_len (o.take j.toNat) [0]
  rw [← h, List.length_take] at h2
  simp only [List.length_singleton] at h2
  omega
theorem nmP_end {us : List Int} {n : Int} {l : List (Int × Int)} {j : Int} (h : NmP us (ownB n l) j) (hj : j = (ownB n l).length) : us = kUs n l := by unfold NmP at h; rw [h, hj, Int.toNat_natCast, List.take_length]; rfl
theorem own_gx {n : Int} {l : List (Int × Int)} {j : Int} (h0 : 0 ≤ j) (h1 : j < (ownB n l).length) : (0 ≤ (gx (ownB n l) j).1 ∧ (gx (ownB n l) j).1 < n) ∧ (0 ≤ (gx (ownB n l) j).2 ∧ (gx (ownB n l) j).2 < n) ∧ (gx (ownB n l) j).1 ∈ kUs n l ∧ (gx (ownB n l) j).2 ∈ kUs n l := by
  have hm : gx (ownB n l) j ∈ ownB n l := List.mem_of_getElem? (gx_eq h0 h1)
  have h2 := (mem_ownB.1 hm).2
  exact ⟨⟨h2.1, h2.2.1⟩, ⟨h2.2.2.1, h2.2.2.2⟩, kUs_ok n l _ hm⟩
def MtS (Ls : List (List Int)) (us : List Int) (o : List (Int × Int)) (j : Int) : Prop := Ls = kMat us (o.take j.toNat)
theorem mtS_start (us : List Int) (o : List (Int × Int)) : MtS (List.replicate us.length []) us o 0 := by unfold MtS; simp [kMat]
theorem mtS_step {Ls : List (List Int)} {us : List Int} {o : List (Int × Int)} {j : Int} (h : MtS Ls us o j) (h0 : 0 ≤ j) (h1 : j < o.length) : MtS (addM Ls us.length (plv us (gx o j).1) (plv us (gx o j).2)) us o (j + 1) := by
  unfold MtS at h ⊢
  rw [(gx_at h0 h1).1, kMat_snoc, ← h]
theorem mtS_end {Ls : List (List Int)} {us : List Int} {o : List (Int × Int)} {j : Int} (h : MtS Ls us o j) (hj : j = o.length) : Ls = kMat us o := by unfold MtS at h; rw [h, hj, Int.toNat_natCast, List.take_length]
theorem ownB_len (n : Int) (l : List (Int × Int)) : (ownB n l).length ≤ l.length := List.length_filter_le _ _
theorem St.ofK {W w : World} (h : Kpt (owns []) W w) : St W (owns []) w [] := ⟨h, (fun e he => (nomatch he)), .nil⟩
theorem allK_any {n : Int} {l m : List (Int × Int)} : (!(m.any fun b => !knB n l b.1 b.2)) = allK n l m := by
  unfold allK
  induction m with
  | nil => rfl
  | cons b m ih => rw [List.any_cons, List.all_cons, ← ih]; cases knB n l b.1 b.2 <;> simp
def bndP (n : Int) (l : List (Int × Int)) (s : Int) : List (Int × Int) := ((rgI s).filter fun a => decide (1 ≤ a)).flatMap (bndR n l)
def bndI (n : Int) (l : List (Int × Int)) (s j : Int) : List (Int × Int) := bndP n l s ++ ((((subsL n l s n).take j.toNat).filter fun c => decide (c ≠ s)).map fun c => (s, c))
theorem bndP_1 (n : Int) (l : List (Int × Int)) : bndP n l 1 = [] := by unfold bndP rgI; rfl
theorem bndI_0 (n : Int) (l : List (Int × Int)) (s : Int) : bndI n l s 0 = bndP n l s := by unfold bndI; simp
theorem bndI_t {n s j : Int} {l : List (Int × Int)} (h0 : 0 ≤ j) (h1 : j < (subsL n l s n).length) (hc : ¬ rdI (subsL n l s n) j = s) : bndI n l s (j + 1) = bndI n l s j ++ [(s, rdI (subsL n l s n) j)] := by
  unfold bndI; rw [take_rd h0 h1, List.filter_append, List.filter_cons_of_pos (by simpa using hc), List.filter_nil, List.map_append, List.append_assoc]; rfl
theorem bndI_f {n s j : Int} {l : List (Int × Int)} (h0 : 0 ≤ j) (h1 : j < (subsL n l s n).length) (hc : rdI (subsL n l s n) j = s) : bndI n l s (j + 1) = bndI n l s j := by
  unfold bndI; rw [take_rd h0 h1, List.filter_append, List.filter_cons_of_neg (by simpa using hc), List.filter_nil, List.append_nil]
theorem bndI_e {n s j : Int} {l : List (Int × Int)} (hs : 1 ≤ s) (hj : j = (subsL n l s n).length) : bndI n l s j = bndP n l (s + 1) := by
  unfold bndI bndP
  rw [hj, Int.toNat_natCast, List.take_length, rgI_snoc (by omega), List.filter_append, List.filter_cons_of_pos (by simpa using hs), List.filter_nil, List.flatMap_append]
  congr 1
  unfold bndR; simp
theorem bndP_e {n s : Int} {l : List (Int × Int)} (h0 : 1 ≤ s) (h1 : n ≤ s) (h2 : s ≤ max n 1) : bndP n l s = bndL n l := by
  by_cases h : s = n
  · subst h; rfl
  · have e : s = 1 := by omega
    subst e
    rw [bndP_1]
    unfold bndL rgI
    rw [show n.toNat = 0 by omega]; rfl
theorem bndI_len {n s j : Int} {l : List (Int × Int)} (h0 : 0 ≤ s) (hn : n ≤ 12) (hs : s ≤ 12) : (bndI n l s j).length ≤ 400 := by
  have hr : ∀ (q : List Int), (∀ a ∈ q, 0 ≤ a) → (q.flatMap (bndR n l)).length ≤ q.length * 12 := fun q hq => by
    induction q with
    | nil => simp
    | cons a q ih =>
      have h1 := ih fun x hx => hq x (by simp [hx])
      have h2 : (bndR n l a).length ≤ 12 := by
        unfold bndR; rw [List.length_map]
        have := List.length_filter_le (fun c => decide (c ≠ a)) (subsL n l a n)
        have := subs_len n l a n
        omega
      rw [List.flatMap_cons, List.length_append, List.length_cons]; omega
  unfold bndI bndP
  rw [List.length_append, List.length_map]
  have h3 := hr ((rgI s).filter fun a => decide (1 ≤ a)) (fun a ha => (mem_rgI.1 (List.mem_filter.1 ha).1).1)
  have h4 := List.length_filter_le (fun a => decide (1 ≤ a)) (rgI s)
  rw [rgI_len] at h4
  have h5 := List.length_filter_le (fun c => decide (c ≠ s)) ((subsL n l s n).take j.toNat)
  rw [List.length_take] at h5
  have h6 := subs_len n l s n
  omega
theorem bndL_len {n : Int} {l : List (Int × Int)} (h0 : 0 ≤ n) (hn : n ≤ 12) : (bndL n l).length ≤ 400 := by
  have h := bndI_len (n := n) (l := l) (s := n) (j := 0) h0 hn hn
  rw [bndI_0] at h; exact h
def eqT2 (L M : List (Int × Int)) (k : Int) : Prop := L.take k.toNat = M.take k.toNat
theorem eqT2_0 {L M : List (Int × Int)} : eqT2 L M 0 := rfl
theorem eqT2_step {L M : List (Int × Int)} {k : Int} (h : eqT2 L M k) (h0 : 0 ≤ k) (h1 : k < L.length) (h2 : k < M.length) (he : gx L k = gx M k) : eqT2 L M (k + 1) := by
  unfold eqT2 at h ⊢; rw [(gx_at h0 h1).1, (gx_at h0 h2).1, h, he]
theorem eqT2_all {L M : List (Int × Int)} {k : Int} (h : eqT2 L M k) (h1 : L.length = M.length) (hk : k = L.length) : L = M := by
  unfold eqT2 at h; rw [hk, Int.toNat_natCast, List.take_length, h1, List.take_length] at h; exact h
section
variable {P : Program} {a : Act} {W : World} {ty : TypeId} {ps : String} {af : Array Edge} {gd : Option (Nat × Bool)} {dst : Option Nat}
theorem equalIn_B {t e : TypeId} {f0 f1 : Field} {d : Nat} (hf : P.fieldsOf t = #[f0, f1]) (hu : P.underlying t = some (.struct (P.fieldsOf t))) (hp : P.stoodInHeld t = false) (n0 : (f0.name == "_") = false) (n1 : (f1.name == "_") = false) (t0 : f0.type = e) (t1 : f1.type = e) (o0 : f0.offset = 0) (o1 : f1.offset = 1) (hi : P.underlying e = some (.int .i64)) (hk : P.plainKey e = true) (p q : Int × Int) :
    (Op.equalIn (d + 2) t (.agg #[.int .i64 p.1, .int .i64 p.2]) (.agg #[.int .i64 q.1, .int .i64 q.2])).run P W = .ok (decide (p = q)) W := by
  have pt : ∀ (xs : Array Value) (j : Nat) (v : Value), xs[j]? = some v → (part e xs j).run P W = .ok v W := fun xs j v h => run_part_plain _ hk h
  have h0 : (part e #[.int .i64 p.1, .int .i64 p.2] 0).run P W = .ok (.int .i64 p.1) W := pt _ 0 _ rfl
  have h1 : (part e #[.int .i64 p.1, .int .i64 p.2] 1).run P W = .ok (.int .i64 p.2) W := pt _ 1 _ rfl
  have h2 : (part e #[.int .i64 q.1, .int .i64 q.2] 0).run P W = .ok (.int .i64 q.1) W := pt _ 0 _ rfl
  have h3 : (part e #[.int .i64 q.1, .int .i64 q.2] 1).run P W = .ok (.int .i64 q.2) W := pt _ 1 _ rfl
  have m0 : f0.name ≠ "_" := by simpa using n0
  have m1 : f1.name ≠ "_" := by simpa using n1
  rw [run_equalIn_struct (P := P) W (d + 1) t _ _ hu hp, hf]
  have e1 : ∀ x y : Int, (Op.equalIn (d + 1) e (.int .i64 x) (.int .i64 y)).run P W = .ok (x == y) W := fun x y => run_equalIn_int W d e .i64 .i64 x y hi
  simp only [Op.eqFields, if_pos m0, if_pos m1, t0, t1, o0, o1, Sem.run_bind, h0, h1, h2, h3, e1, Result.andThen_ok]
  rcases p with ⟨p1, p2⟩
  rcases q with ⟨q1, q2⟩
  by_cases a1 : p1 = q1
  · subst a1
    by_cases a2 : p2 = q2
    · subst a2
      simp only [] at h1 h3
      simp [h1, e1, Result.andThen_ok]
    · simp only [] at h1 h3
      simp [h1, h3, e1, a2, Result.andThen_ok]
  · simp [a1]
theorem R_neB {t e t2 : TypeId} {f0 f1 : Field} {x y : Operand} (p q : Int × Int) (hx : a.eval x = .agg #[.int .i64 p.1, .int .i64 p.2]) (hy : a.eval y = .agg #[.int .i64 q.1, .int .i64 q.2]) (hf : P.fieldsOf t = #[f0, f1]) (hu : P.underlying t = some (.struct (P.fieldsOf t))) (hp : P.stoodInHeld t = false) (n0 : (f0.name == "_") = false) (n1 : (f1.name == "_") = false) (t0 : f0.type = e) (t1 : f1.type = e) (o0 : f0.offset = 0) (o1 : f1.offset = 1) (hi : P.underlying e = some (.int .i64)) (hk : P.plainKey e = true) (hm : P.eqGuardType P.depth t = false) :
    (execOp a.eval ⟨dst, .binOp .neq t x y t2, ty, ps, af, gd⟩).run P W = .ok (.value (.bool (!decide (p = q)))) W := by
  have h2 := equalIn_B (W := W) (d := 9998) hf hu hp n0 n1 t0 t1 o0 o1 hi hk p q
  have h3 := run_neq_struct (P := P) W t #[.int .i64 p.1, .int .i64 p.2] #[.int .i64 q.1, .int .i64 q.2]
  rw [h2] at h3
  have h4 := run_eqGuard_agg (P := P) W .neq t x y #[.int .i64 p.1, .int .i64 p.2] #[.int .i64 q.1, .int .i64 q.2] hm
  simp [execOp, hx, hy, h3, h4, Result.andThen_ok]
end
theorem rd_nilP {W : World} {A : Option Addr} : Rd W A (cf prC []) := fun j v hv => by simp [cf] at hv
/-! ### rows of rows that are written -/
abbrev Pp := (Option Addr × Nat) × List Int
def cp (ps : List Pp) : List Value := ps.map fun p => .slice p.1.1 p.2.length p.1.2
theorem cp_len (xs : List Pp) : (cp xs).length = xs.length := by simp [cp]
theorem cp_one {xs : List Pp} : ∀ u ∈ cp xs, u.oneCell' = true := by
  intro u hu; simp only [cp, List.mem_map] at hu; obtain ⟨x, _, rfl⟩ := hu; rfl
theorem cp_at {xs : List Pp} {i : Int} {A : Option Addr} {c : Nat} {l : List Int} (h0 : 0 ≤ i) (h1 : i < xs.length) (h : gx xs i = ((A, c), l)) : (cp xs)[i.toNat]? = some (.slice A l.length c) := by
  unfold cp; rw [List.getElem?_map, gx_eq h0 h1, h]; rfl
theorem cp_app (xs ys : List Pp) : cp (xs ++ ys) = cp xs ++ cp ys := by simp [cp]
theorem gx_in {α : Type} [Inhabited α] {xs : List α} {i : Int} (h0 : 0 ≤ i) (h1 : i < xs.length) : gx xs i ∈ xs := List.mem_of_getElem? (gx_eq h0 h1)
def rwE (t : Nat) (p : Pp) : Ent := row p.1.1 p.2.length p.1.2 (ci .i64 p.2) t 1
theorem rws_rd {t : Nat} {ps : List Pp} {W : World} {A : Option Addr} {c : Nat} {l : List Int} (h : (many (ps.map (rwE t))).P W) (hm : ((A, c), l) ∈ ps) : Rd W A (ci .i64 l) := rd_of_rowP (h.1 _ (List.mem_map.2 ⟨_, hm, rfl⟩))
section
variable {W0 W : World} {M : Nat → Prop} {L : List Ent} {t : Nat} {ps : List Pp} {k : Nat} {x y : Pp}
theorem St.takeRw (HS : St W0 M W (many (ps.map (rwE t)) :: L)) (h : ps[k]? = some x) : St W0 M W (rwE t x :: many ((ps.take k ++ ps.drop (k + 1)).map (rwE t)) :: L) := by
  obtain ⟨hk, e⟩ := List.getElem?_eq_some_iff.1 h
  have e2 : ps = ps.take k ++ [x] ++ ps.drop (k + 1) := by
    rw [List.append_assoc, List.singleton_append, ← e, ← List.drop_eq_getElem_cons, List.take_append_drop]
  have h1 : ps.map (rwE t) = (ps.take k).map (rwE t) ++ [rwE t x] ++ (ps.drop (k + 1)).map (rwE t) := by
    conv => lhs; rw [e2]
    simp
  rw [h1] at HS
  have h2 := HS.openM
  rw [List.map_append]
  exact h2
theorem St.giveRw (hk : k < ps.length) (HS : St W0 M W (rwE t y :: many ((ps.take k ++ ps.drop (k + 1)).map (rwE t)) :: L)) : St W0 M W (many ((ps.set k y).map (rwE t)) :: L) := by
  rw [List.map_append] at HS
  have h2 := St.closeM (E := [rwE t y]) HS
  have e : (ps.set k y).map (rwE t) = (ps.take k).map (rwE t) ++ [rwE t y] ++ (ps.drop (k + 1)).map (rwE t) := by
    rw [List.set_eq_take_append_cons_drop, if_pos hk]; simp
  rw [e]; exact h2
theorem St.addRw (HS : St W0 M W (rwE t y :: many (ps.map (rwE t)) :: L)) : St W0 M W (many ((ps ++ [y]).map (rwE t)) :: L) := by
  have h2 := St.closeM (F1 := ps.map (rwE t)) (F2 := []) (E := [rwE t y]) (by rw [List.append_nil]; exact HS)
  rw [List.append_nil] at h2
  rw [List.map_append]; exact h2
end
def vl (ps : List Pp) (a b : Int) : Int := rdI (gx ps a).2 b
def bas (l : List (Int × Int)) (a b : Int) : Prop := a = b ∨ a = 0 ∨ (a, b) ∈ l
instance (l : List (Int × Int)) (a b : Int) : Decidable (bas l a b) := by unfold bas; exact inferInstance
def btp (p : Prop) [Decidable p] : Int := if p then 1 else 0
def irow (n : Int) (l : List (Int × Int)) (a : Int) : List Int := (rgI n).map fun b => btp (bas l a b)
theorem btp_01 (p : Prop) [Decidable p] : btp p = 0 ∨ btp p = 1 := by unfold btp; split <;> simp
theorem btp_1 {p : Prop} [Decidable p] : btp p = 1 ↔ p := by unfold btp; split <;> simp_all
theorem rgI_get {n k : Int} (h0 : 0 ≤ k) (h1 : k < n) : (rgI n)[k.toNat]? = some k := by
  unfold rgI; rw [List.getElem?_map, List.getElem?_range (by omega)]; simp; omega
theorem rdI_irow {n a b : Int} {l : List (Int × Int)} (h0 : 0 ≤ b) (h1 : b < n) : rdI (irow n l a) b = btp (bas l a b) := by
  have h2 : ((irow n l a).length : Int) = n := by unfold irow; rw [List.length_map, rgI_len]; omega
  have h := rdI_eq (xs := irow n l a) h0 (by omega)
  unfold irow at h
  rw [List.getElem?_map, rgI_get h0 h1] at h
  exact (Option.some.inj h).symm
/-- What the rows say: who outlives whom, so far as it is found. -/
structure InvM (n : Int) (l : List (Int × Int)) (ps : List Pp) : Prop where
  len : (ps.length : Int) = n
  rl : ∀ p ∈ ps, (p.2.length : Int) = n
  bit : ∀ a b, 0 ≤ a → a < n → 0 ≤ b → b < n → vl ps a b = 0 ∨ vl ps a b = 1
  snd : ∀ a b, 0 ≤ a → a < n → 0 ≤ b → b < n → vl ps a b = 1 → Rc (ownB n l) a b
  bse : ∀ a b, 0 ≤ a → a < n → 0 ≤ b → b < n → bas l a b → vl ps a b = 1
theorem invM_start {n : Int} {l : List (Int × Int)} {ps : List Pp} (h0 : 0 ≤ n) (h : ps.map (·.2) = (rgI n).map (irow n l)) : InvM n l ps := by
  have hl : (ps.length : Int) = n := by
    have := congrArg List.length h
    rw [List.length_map, List.length_map, rgI_len] at this; omega
  have key : ∀ a, 0 ≤ a → a < n → (gx ps a).2 = irow n l a := fun a a0 a1 => by
    have h1 := gx_eq (xs := ps) a0 (by omega)
    have h2 : (ps.map (·.2))[a.toNat]? = some (gx ps a).2 := by rw [List.getElem?_map, h1]; rfl
    rw [h, List.getElem?_map, rgI_get a0 a1] at h2
    exact (Option.some.inj h2).symm
  have kv : ∀ a b, 0 ≤ a → a < n → 0 ≤ b → b < n → vl ps a b = btp (bas l a b) := fun a b a0 a1 b0 b1 => by unfold vl; rw [key a a0 a1, rdI_irow b0 b1]
  refine ⟨hl, fun p hp => ?_, fun a b a0 a1 b0 b1 => by rw [kv a b a0 a1 b0 b1]; exact btp_01 _, fun a b a0 a1 b0 b1 hv => ?_, fun a b a0 a1 b0 b1 hb => by rw [kv a b a0 a1 b0 b1]; exact btp_1.2 hb⟩
  · have hm : p.2 ∈ ps.map (·.2) := List.mem_map.2 ⟨p, hp, rfl⟩
    rw [h] at hm
    obtain ⟨a, _, e⟩ := List.mem_map.1 hm
    rw [← e]; unfold irow; rw [List.length_map, rgI_len]; omega
  · rw [kv a b a0 a1 b0 b1] at hv
    rcases btp_1.1 hv with rfl | rfl | hb
    · exact .refl _
    · exact .zero _
    · exact .step (mem_ownB.2 ⟨hb, a0, a1, b0, b1⟩) (.refl _)
def setV (ps : List Pp) (a c : Int) : List Pp := ps.set a.toNat ((gx ps a).1, (gx ps a).2.set c.toNat 1)
theorem gx_set {ps : List Pp} {a x : Int} {y : Pp} (a0 : 0 ≤ a) (a1 : a < ps.length) (x0 : 0 ≤ x) (x1 : x < ps.length) : gx (ps.set a.toNat y) x = if x = a then y else gx ps x := by
  have h := gx_eq (xs := ps.set a.toNat y) x0 (by rw [List.length_set]; exact x1)
  split
  · rename_i e; subst e
    rw [List.getElem?_set_self (by omega)] at h; exact (Option.some.inj h).symm
  · rename_i e
    rw [List.getElem?_set_ne (by omega), gx_eq x0 x1] at h; exact (Option.some.inj h).symm
theorem rdI_set {xs : List Int} {c y v : Int} (c0 : 0 ≤ c) (c1 : c < xs.length) (y0 : 0 ≤ y) (y1 : y < xs.length) : rdI (xs.set c.toNat v) y = if y = c then v else rdI xs y := by
  have h := rdI_eq (xs := xs.set c.toNat v) y0 (by rw [List.length_set]; exact y1)
  split
  · rename_i e; subst e
    rw [List.getElem?_set_self (by omega)] at h; exact (Option.some.inj h).symm
  · rename_i e
    rw [List.getElem?_set_ne (by omega), rdI_eq y0 y1] at h; exact (Option.some.inj h).symm
theorem vl_set {n : Int} {l : List (Int × Int)} {ps : List Pp} (h : InvM n l ps) {a c x y : Int} (a0 : 0 ≤ a) (a1 : a < n) (c0 : 0 ≤ c) (c1 : c < n) (x0 : 0 ≤ x) (x1 : x < n) (y0 : 0 ≤ y) (y1 : y < n) : vl (setV ps a c) x y = if x = a ∧ y = c then 1 else vl ps x y := by
  have hl := h.len
  unfold vl setV
  rw [gx_set a0 (by omega) x0 (by omega)]
  by_cases e : x = a
  · subst e
    have hr := h.rl _ (gx_in (xs := ps) x0 (by omega))
    rw [if_pos rfl, rdI_set c0 (by omega) y0 (by omega)]
    simp
  · rw [if_neg e, if_neg (fun k => e k.1)]
theorem invM_set {n : Int} {l : List (Int × Int)} {ps : List Pp} (h : InvM n l ps) {a b c : Int} (a0 : 0 ≤ a) (a1 : a < n) (b0 : 0 ≤ b) (b1 : b < n) (c0 : 0 ≤ c) (c1 : c < n) (hab : vl ps a b = 1) (hbc : vl ps b c = 1) : InvM n l (setV ps a c) := by
  have hl := h.len
  refine ⟨by unfold setV; rw [List.length_set]; exact hl, fun p hp => ?_, fun x y x0 x1 y0 y1 => ?_, fun x y x0 x1 y0 y1 hv => ?_, fun x y x0 x1 y0 y1 hb => ?_⟩
  · unfold setV at hp
    rcases List.mem_or_eq_of_mem_set hp with hp | rfl
    · exact h.rl p hp
    · rw [List.length_set]; exact h.rl _ (gx_in (xs := ps) a0 (by omega))
  · rw [vl_set h a0 a1 c0 c1 x0 x1 y0 y1]; split
    · exact .inr rfl
    · exact h.bit x y x0 x1 y0 y1
  · rw [vl_set h a0 a1 c0 c1 x0 x1 y0 y1] at hv; split at hv
    · rename_i e; rw [e.1, e.2]; exact (h.snd a b a0 a1 b0 b1 hab).trans (h.snd b c b0 b1 c0 c1 hbc)
    · exact h.snd x y x0 x1 y0 y1 hv
  · rw [vl_set h a0 a1 c0 c1 x0 x1 y0 y1]; split
    · rfl
    · exact h.bse x y x0 x1 y0 y1 hb
def zc (l : List Int) : Nat := (l.filter fun v => decide (v = 0)).length
def zer (ps : List Pp) : Nat := (ps.map fun p => zc p.2).sum
theorem zc_set : ∀ {l : List Int} {k : Nat}, l[k]? = some 0 → zc (l.set k 1) + 1 = zc l
  | [], k, h => by simp at h
  | x :: l, 0, h => by
    have : x = 0 := by simpa using h
    subst this; simp [zc]
  | x :: l, k + 1, h => by
    have ih := zc_set (l := l) (k := k) (by simpa using h)
    unfold zc at ih ⊢
    rw [List.set_cons_succ]
    by_cases hx : x = 0
    · simp [hx] at ih ⊢; omega
    · simp [hx] at ih ⊢; omega
theorem sum_set {f : Pp → Nat} : ∀ {ps : List Pp} {k : Nat} {x y : Pp}, ps[k]? = some x → f y + 1 = f x → ((ps.set k y).map f).sum + 1 = (ps.map f).sum
  | [], k, x, y, h, _ => by simp at h
  | p :: ps, 0, x, y, h, hf => by
    have : p = x := by simpa using h
    subst this; simp; omega
  | p :: ps, k + 1, x, y, h, hf => by
    have ih := sum_set (ps := ps) (k := k) (by simpa using h) hf
    rw [List.set_cons_succ, List.map_cons, List.sum_cons, List.map_cons, List.sum_cons]; omega
theorem zer_set {n : Int} {l : List (Int × Int)} {ps : List Pp} (h : InvM n l ps) {a c : Int} (a0 : 0 ≤ a) (a1 : a < n) (c0 : 0 ≤ c) (c1 : c < n) (hv : vl ps a c = 0) : zer (setV ps a c) + 1 = zer ps := by
  have hl := h.len
  have hr := h.rl _ (gx_in (xs := ps) a0 (by omega))
  refine sum_set (gx_eq a0 (by omega)) (zc_set ?_)
  rw [rdI_eq c0 (by omega)]; exact congrArg some hv
def Pr (n : Int) (z0 : Nat) (m : Bool) (ps : List Pp) (a b c : Int) : Prop :=
  if m then zer ps < z0 else zer ps = z0 ∧ ∀ x y w, 0 ≤ x → x < n → 0 ≤ y → y < n → 0 ≤ w → w < n → (x < a ∨ (x = a ∧ (y < b ∨ (y = b ∧ w < c)))) → vl ps x y = 1 → vl ps y w = 1 → vl ps x w = 1
theorem pr_start (n : Int) (ps : List Pp) : Pr n (zer ps) false ps 0 0 0 := ⟨rfl, fun x y w x0 _ y0 _ w0 _ h => by omega⟩
theorem pr_no {n : Int} {z0 : Nat} {m : Bool} {ps : List Pp} {a b c : Int} (h : Pr n z0 m ps a b c) (hn : vl ps a b = 1 → vl ps b c = 1 → vl ps a c = 1) : Pr n z0 m ps a b (c + 1) := by
  cases m with
  | true => exact h
  | false =>
    refine ⟨h.1, fun x y w x0 x1 y0 y1 w0 w1 hl h1 h2 => ?_⟩
    by_cases e : x = a ∧ y = b ∧ w = c
    · obtain ⟨rfl, rfl, rfl⟩ := e; exact hn h1 h2
    · exact h.2 x y w x0 x1 y0 y1 w0 w1 (by omega) h1 h2
theorem pr_yes {n : Int} {l : List (Int × Int)} {z0 : Nat} {m : Bool} {ps : List Pp} {a b c : Int} (h : Pr n z0 m ps a b c) (hi : InvM n l ps) (a0 : 0 ≤ a) (a1 : a < n) (c0 : 0 ≤ c) (c1 : c < n) (hv : vl ps a c = 0) (b' c' : Int) : Pr n z0 true (setV ps a c) a b' c' := by
  have hz := zer_set hi a0 a1 c0 c1 hv
  show zer (setV ps a c) < z0
  cases m with
  | true => have : zer ps < z0 := h; omega
  | false => have : zer ps = z0 := h.1; omega
theorem pr_c {n : Int} {z0 : Nat} {m : Bool} {ps : List Pp} {a b : Int} (h : Pr n z0 m ps a b n) : Pr n z0 m ps a (b + 1) 0 := by
  cases m with
  | true => exact h
  | false => exact ⟨h.1, fun x y w x0 x1 y0 y1 w0 w1 hl => h.2 x y w x0 x1 y0 y1 w0 w1 (by omega)⟩
theorem pr_b {n : Int} {z0 : Nat} {m : Bool} {ps : List Pp} {a : Int} (h : Pr n z0 m ps a n 0) : Pr n z0 m ps (a + 1) 0 0 := by
  cases m with
  | true => exact h
  | false => exact ⟨h.1, fun x y w x0 x1 y0 y1 w0 w1 hl => h.2 x y w x0 x1 y0 y1 w0 w1 (by omega)⟩
structure RM (n : Int) (l : List (Int × Int)) (ps : List Pp) : Prop where
  len : (ps.length : Int) = n
  rl : ∀ p ∈ ps, (p.2.length : Int) = n
  vlq : ∀ a b, 0 ≤ a → a < n → 0 ≤ b → b < n → vl ps a b = if knB n l a b then 1 else 0
theorem rm_end {n : Int} {l : List (Int × Int)} {z0 : Nat} {ps : List Pp} (hi : InvM n l ps) (h : Pr n z0 false ps n 0 0) : RM n l ps := by
  refine ⟨hi.len, hi.rl, fun a b a0 a1 b0 b1 => ?_⟩
  have cl : ∀ x y w, 0 ≤ x → x < n → 0 ≤ y → y < n → 0 ≤ w → w < n → vl ps x y = 1 → vl ps y w = 1 → vl ps x w = 1 := fun x y w x0 x1 y0 y1 w0 w1 => h.2 x y w x0 x1 y0 y1 w0 w1 (.inl x1)
  have key : ∀ {a b : Int}, Rc (ownB n l) a b → 0 ≤ a → a < n → 0 ≤ b → b < n → vl ps a b = 1 := fun {a b} k => by
    induction k with
    | refl a => intro a0 a1 b0 b1; exact hi.bse a a a0 a1 b0 b1 (.inl rfl)
    | zero c => intro a0 a1 b0 b1; exact hi.bse 0 c a0 a1 b0 b1 (.inr (.inl rfl))
    | @step a b c hb _ ih =>
      intro a0 a1 c0 c1
      obtain ⟨hm, h1, h2, h3, h4⟩ := mem_ownB.1 hb
      exact cl a b c a0 a1 h3 h4 c0 c1 (hi.bse a b a0 a1 h3 h4 (.inr (.inr hm))) (ih h3 h4 c0 c1)
  split
  · rename_i hk; exact key (knB_iff.1 hk).2.2 a0 a1 b0 b1
  · rename_i hk
    rcases hi.bit a b a0 a1 b0 b1 with h0 | h1
    · exact h0
    · exact absurd (knB_iff.2 ⟨⟨a0, a1⟩, ⟨b0, b1⟩, hi.snd a b a0 a1 b0 b1 h1⟩) hk
def BsI (l : List (Int × Int)) (a b k q : Int) : Prop := q = btp (a = b ∨ a = 0 ∨ (a, b) ∈ l.take k.toNat)
theorem bsI_t {l : List (Int × Int)} {a b k : Int} (h0 : 0 ≤ k) (h1 : k < l.length) (hx : (gx l k).1 = a) (hy : (gx l k).2 = b) : BsI l a b (k + 1) 1 := by
  unfold BsI; rw [(gx_at h0 h1).1]
  exact (btp_1.2 (.inr (.inr (by rw [List.mem_append]; exact .inr (by simp [← hx, ← hy]))))).symm
theorem bsI_f {l : List (Int × Int)} {a b k q : Int} (h : BsI l a b k q) (h0 : 0 ≤ k) (h1 : k < l.length) (hn : ¬ ((gx l k).1 = a ∧ (gx l k).2 = b)) : BsI l a b (k + 1) q := by
  unfold BsI at h ⊢
  rw [h]; unfold btp
  have e : (a = b ∨ a = 0 ∨ (a, b) ∈ l.take k.toNat) ↔ (a = b ∨ a = 0 ∨ (a, b) ∈ l.take (k + 1).toNat) := by
    rw [(gx_at h0 h1).1, List.mem_append, List.mem_singleton]
    constructor
    · rintro (k | k | k)
      · exact .inl k
      · exact .inr (.inl k)
      · exact .inr (.inr (.inl k))
    · rintro (k | k | k | k)
      · exact .inl k
      · exact .inr (.inl k)
      · exact .inr (.inr k)
      · exact absurd ⟨by rw [← k], by rw [← k]⟩ hn
  by_cases hc : (a = b ∨ a = 0 ∨ (a, b) ∈ l.take k.toNat)
  · rw [if_pos hc, if_pos (e.1 hc)]
  · rw [if_neg hc, if_neg (fun k => hc (e.2 k))]
theorem bsI_e {l : List (Int × Int)} {a b k q : Int} (h : BsI l a b k q) (hk : k = l.length) : q = btp (bas l a b) := by unfold BsI at h; rw [h, hk, Int.toNat_natCast]; unfold btp bas; simp
def irP (n : Int) (l : List (Int × Int)) (a k : Int) : List Int := (rgI k).map fun b => btp (bas l a b)
theorem irP_s {n : Int} {l : List (Int × Int)} {a k q : Int} (h : 0 ≤ k) (hq : q = btp (bas l a k)) : irP n l a k ++ [q] = irP n l a (k + 1) := by unfold irP; rw [rgI_snoc h, List.map_append, hq]; rfl
theorem irP_len (n : Int) (l : List (Int × Int)) (a k : Int) : (irP n l a k).length = k.toNat := by unfold irP; rw [List.length_map, rgI_len]
theorem rws_s {n : Int} {l : List (Int × Int)} {ps : List Pp} {a : Int} {x : Option Addr × Nat} (h : ps.map (·.2) = (rgI a).map (irow n l)) (h0 : 0 ≤ a) : (ps ++ [(x, irow n l a)]).map (·.2) = (rgI (a + 1)).map (irow n l) := by rw [List.map_append, h, rgI_snoc h0, List.map_append]; rfl
theorem setV_eq {ps : List Pp} {a c : Int} {A : Option Addr} {k : Nat} {la xs : List Int} (h : gx ps a = ((A, k), la)) (hx : xs = la.set c.toNat 1) : ps.set a.toNat ((A, k), xs) = setV ps a c := by unfold setV; rw [h, hx]
theorem cp_setV {ps : List Pp} {a c : Int} (a0 : 0 ≤ a) (a1 : a < ps.length) : cp (setV ps a c) = cp ps := by
  unfold cp setV
  rw [List.map_set]
  have h := gx_eq (xs := ps) a0 a1
  obtain ⟨hk, e⟩ := List.getElem?_eq_some_iff.1 h
  have e2 : (ps.map fun p : Pp => Value.slice p.1.1 p.2.length p.1.2)[a.toNat]'(by simpa using hk) = Value.slice (gx ps a).1.1 (gx ps a).2.length (gx ps a).1.2 := by rw [List.getElem_map, e]
  simp only [List.length_set]
  rw [← e2, List.set_getElem_self]
theorem pr_meas {n : Int} {m m1 : Bool} {qs qs1 : List Pp} {a b c : Int} (h : Pr n (zer qs) m1 qs1 a b c) (hm : m = true) : 2 * zer qs1 + (if m1 then 1 else 0) < 2 * zer qs + (if m then 1 else 0) := by
  subst hm
  cases m1 with
  | true => have : zer qs1 < zer qs := h; simp; omega
  | false => have : zer qs1 = zer qs := h.1; simp; omega
theorem rm_t {n : Int} {l : List (Int × Int)} {ps : List Pp} (h : RM n l ps) {a b : Int} (a0 : 0 ≤ a) (a1 : a < n) (b0 : 0 ≤ b) (b1 : b < n) (hv : vl ps a b = 1) : knB n l a b = true := by
  have h2 := h.vlq a b a0 a1 b0 b1
  rw [hv] at h2
  cases hk : knB n l a b with
  | true => rfl
  | false => rw [hk] at h2; simp at h2
theorem rm_f {n : Int} {l : List (Int × Int)} {ps : List Pp} (h : RM n l ps) {a b : Int} (a0 : 0 ≤ a) (a1 : a < n) (b0 : 0 ≤ b) (b1 : b < n) (hv : ¬ vl ps a b = 1) : knB n l a b = false := by
  have h2 := h.vlq a b a0 a1 b0 b1
  cases hk : knB n l a b with
  | true => rw [hk] at h2; exact absurd h2 hv
  | false => rfl
theorem rm_nil (l : List (Int × Int)) : RM 0 l [] := ⟨rfl, (fun p hp => (nomatch hp)), fun a b a0 a1 => by omega⟩
def bndJ (n : Int) (l : List (Int × Int)) (s j : Int) : List (Int × Int) := bndP n l s ++ (((subsL n l s j).filter fun c => decide (c ≠ s)).map fun c => (s, c))
theorem bndJ_0 (n : Int) (l : List (Int × Int)) (s : Int) : bndJ n l s 0 = bndP n l s := by unfold bndJ; rw [show subsL n l s 0 = [] from rfl]; simp
theorem bndJ_t {n s j : Int} {l : List (Int × Int)} (h0 : 0 ≤ j) (hc : ¬ s = j) (hk : knB n l s j = true) : bndJ n l s (j + 1) = bndJ n l s j ++ [(s, j)] := by
  unfold bndJ; rw [subs_t h0 hk, List.filter_append, List.filter_cons_of_pos (by simpa using fun e => hc e.symm), List.filter_nil, List.map_append, List.append_assoc]; rfl
theorem bndJ_f {n s j : Int} {l : List (Int × Int)} (h0 : 0 ≤ j) (h : s = j ∨ knB n l s j = false) : bndJ n l s (j + 1) = bndJ n l s j := by
  unfold bndJ
  rcases h with rfl | hk
  · cases hk : knB n l s s with
    | true => rw [subs_t h0 hk, List.filter_append, List.filter_cons_of_neg (by simp), List.filter_nil, List.append_nil]
    | false => rw [subs_f h0 hk]
  · rw [subs_f h0 hk]
theorem bndJ_e {n s j : Int} {l : List (Int × Int)} (hs : 1 ≤ s) (hj : j = n) : bndJ n l s j = bndP n l (s + 1) := by
  subst hj
  unfold bndJ bndP
  rw [rgI_snoc (by omega), List.filter_append, List.filter_cons_of_pos (by simpa using hs), List.filter_nil, List.flatMap_append]
  congr 1
  unfold bndR; simp
theorem bndJ_len {n s j : Int} {l : List (Int × Int)} (h0 : 0 ≤ s) (hn : n ≤ 12) (hs : s ≤ 12) (hj : j ≤ 12) : (bndJ n l s j).length ≤ 500 := by
  have h1 := bndI_len (n := n) (l := l) (s := s) (j := 0) h0 hn hs
  rw [bndI_0] at h1
  unfold bndJ
  rw [List.length_append, List.length_map]
  have h5 := List.length_filter_le (fun c => decide (c ≠ s)) (subsL n l s j)
  have h6 := subs_len n l s j
  omega
theorem knB_0 (l : List (Int × Int)) (a c : Int) : knB 0 l a c = false := knB_out (by omega)
theorem noP_allK {n : Int} {l m : List (Int × Int)} {k : Int} (h : NoP (fun b => !knB n l b.1 b.2) m k) (hk : k = m.length) : allK n l m = true := by rw [← allK_any, (noP_all h hk).1]; rfl
theorem noP_allF {n : Int} {l m : List (Int × Int)} {k : Int} (k0 : 0 ≤ k) (k1 : k < m.length) (hx : knB n l (gx m k).1 (gx m k).2 = false) : allK n l m = false := by rw [← allK_any, noP_any (p := fun b => !knB n l b.1 b.2) k0 k1 (by simp [hx])]; rfl
theorem hpo_at {W : World} {ps : List Pp} (hpo : ∀ p ∈ ps, Rd W p.1.1 (ci .i64 p.2)) {A : Option Addr} {c : Nat} {l : List Int} (h : ((A, c), l) ∈ ps) : Rd W A (ci .i64 l) := hpo _ h


end Go.Proofs.Ytdiodmdohkjafaa.GDeclTells
