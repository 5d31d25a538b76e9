/- The law MixedPlays holds at every input. This text: words and laws for the walks. No condition but those in the statement. -/
import Derived.WalkKit
import Derived.StillTailTactics
import Derived.Deep.LoopGhost
import Derived.KernelRfl
import Derived.Deep.OwnRows
import Derived.Laws.OwnMore
import Derived.Laws.MakeOwn
import Derived.Maps.AppendAt
import Derived.OrdersHeld
import Derived.Maps.OwnSet
import Derived.Maps.Keyed
import Derived.Maps.Views
import Derived.Laws.CopyRow
import Derived.Laws.IdiomCopy
import Derived.Laws.Entries
import Derived.Lib.TrailingZeros
import Derived.Laws.Bits64b
import Derived.Laws.BitsLemmas
import Derived.RangeFuncWrites
import Derived.RangeFuncLeaves
import Derived.RangeFuncCalls
import Derived.Shelf.Abstract
import Derived.Deep.Slices
import Derived.ChangeArms
import Derived.DataReads
import Derived.OpenShut
import Derived.Lib.Overlaps
import Derived.Lib.AppendZerosOnto
import Derived.Lib.SliceRun
import Derived.ArgAppend
import Derived.Conc.EntryLaws
import Derived.Test.YtdiodmdohkjafaaDoorProg
namespace Go.Proofs.YtdiodmdohkjafaaDoor.Hp
open Go Go.RowKit
set_option linter.unusedVariables false
set_option linter.unusedSimpArgs false
/-! ### worlds: what is kept -/
structure Kpt (M : Nat → Prop) (w w' : World) : Prop where
  os : w'.os = w.os
  tape : w'.tape = w.tape
  output : w'.output = w.output
  size : w.heap.size ≤ w'.heap.size
  block : ∀ k, k < w.heap.size → ¬ M k → w'.heap[k]? = w.heap[k]?
theorem Kpt.refl (M : Nat → Prop) (w : World) : Kpt M w w := ⟨rfl, rfl, rfl, Nat.le_refl _, fun _ _ _ => rfl⟩
theorem Kpt.trans {M N : Nat → Prop} {a b c : World} (h : Kpt M a b) (k : Kpt N b c) (hn : ∀ i, N i → M i ∨ a.heap.size ≤ i) : Kpt M a c :=
  ⟨k.os.trans h.os, k.tape.trans h.tape, k.output.trans h.output, Nat.le_trans h.size k.size, fun i hi hm =>
    (k.block i (Nat.lt_of_lt_of_le hi h.size) (fun hN => (hn i hN).elim hm (fun h2 => by omega))).trans (h.block i hi hm)⟩
theorem Kpt.of_below {M : Nat → Prop} {w w' : World} (h : Below w.heap.size w w') : Kpt M w w' := ⟨h.os, h.tape, h.output, h.size, fun k hk _ => h.block k hk⟩
theorem Kpt.below {M : Nat → Prop} {w w' : World} (h : Kpt M w w') (hM : ∀ k, ¬ M k) : Below w.heap.size w w' := ⟨h.os, h.tape, h.output, h.size, fun k hk => h.block k hk (hM k)⟩
theorem Kpt.of_grown {M : Nat → Prop} {w w' : World} {r : Option Nat} (h : w.grownBy w' r) (hM : ∀ k, r = some k → M k) : Kpt M w w' := ⟨h.os, h.tape, h.output, h.size, fun k hk hm => h.block k hk (fun e => hm (hM k e.symm))⟩
theorem Kpt.alloc {M : Nat → Prop} (w : World) (o : Obj) : Kpt M w (w.alloc o) := ⟨rfl, rfl, rfl, by simp, fun k hk _ => heap_alloc_old w o hk⟩
theorem Kpt.drew {M : Nat → Prop} (w : World) (n : Nat) : Kpt M w { w with drawn := n } := ⟨rfl, rfl, rfl, Nat.le_refl _, fun _ _ _ => rfl⟩
theorem Kpt.setRow {M : Nat → Prop} (w : World) (g : Nat) (cs : Array Value) (hM : M g) : Kpt M w (w.setRow g cs) :=
  ⟨rfl, rfl, rfl, by simp [World.setRow], fun k _ hm => setRow_other w g k _ (fun e => hm (e ▸ hM))⟩
/-! ### what is owned -/
structure Ent where
  own : Nat → Prop
  P : World → Prop
  loc : ∀ W W' : World, (∀ k, own k → W'.heap[k]? = W.heap[k]?) → P W → P W'
/-- A block whose cells are all known. -/
def blk (g : Nat) (cs : List Value) (t : Nat) : Ent := ⟨fun k => k = g, fun W => W.heap[g]? = some (.cells cs.toArray t (0, 0)), fun _ _ h p => (h g rfl).trans p⟩
/-- A slice's block from its first cell on; there may be room behind. -/
def row (A : Option Addr) (n c : Nat) (cs : List Value) (t z : Nat) : Ent :=
  ⟨fun k => (Value.slice A n c).ownBlock = some k, fun W => W.ownsRow 0 t z (.slice A n c) n cs, fun W W' h p => by
    refine ⟨p.1, ?_⟩
    rcases p.2 with hn | ⟨g, cap, cur, e, hb, hg, rest⟩
    · exact .inl hn
    · refine .inr ⟨g, cap, cur, e, hb, ?_, rest⟩
      rw [h g (by rw [e]; rfl)]
      exact hg⟩
def owns (L : List Ent) : Nat → Prop := fun k => ∃ e ∈ L, e.own k
structure St (W0 : World) (M : Nat → Prop) (W : World) (L : List Ent) : Prop where
  kept : Kpt M W0 W
  has : ∀ e ∈ L, e.P W ∧ ∀ k, e.own k → k < W.heap.size ∧ (M k ∨ W0.heap.size ≤ k)
  ne : L.Pairwise fun e f => ∀ k, e.own k → ¬ f.own k
namespace St
variable {W0 W W' : World} {M : Nat → Prop} {L : List Ent} {e e' : Ent}
theorem start (W : World) (M : Nat → Prop) : St W M W [] := ⟨.refl _ _, fun _ h => (nomatch h), .nil⟩
theorem get (h : St W0 M W L) {i : Nat} (hi : L[i]? = some e) : e.P W := (h.has e (List.mem_of_getElem? hi)).1
theorem lt (h : St W0 M W L) {i : Nat} (hi : L[i]? = some e) {k : Nat} (hk : e.own k) : k < W.heap.size := ((h.has e (List.mem_of_getElem? hi)).2 k hk).1
theorem le (h : St W0 M W L) : W0.heap.size ≤ W.heap.size := h.kept.size
/-- The world goes on, nothing of it changes. -/
theorem step (h : St W0 M W L) (hk : Kpt (fun _ => False) W W') : St W0 M W' L :=
  ⟨h.kept.trans hk (fun _ f => f.elim), fun e he => ⟨e.loc W W' (fun k ho => hk.block k ((h.has e he).2 k ho).1 (fun f => f)) (h.has e he).1, fun k ho => ⟨Nat.lt_of_lt_of_le ((h.has e he).2 k ho).1 hk.size, ((h.has e he).2 k ho).2⟩⟩, h.ne⟩
theorem below (h : St W0 M W L) (hb : Below W.heap.size W W') : St W0 M W' L := h.step (.of_below hb)
theorem drew (h : St W0 M W L) (n : Nat) : St W0 M { W with drawn := n } L := h.step (.drew _ _)
/-- Something new. -/
theorem new (h : St W0 M W L) (hk : Kpt (fun _ => False) W W') (hP : e'.P W') (ho : ∀ k, e'.own k → W.heap.size ≤ k ∧ k < W'.heap.size) : St W0 M W' (e' :: L) := by
  have h2 := h.step hk
  refine ⟨h2.kept, fun e he => ?_, List.pairwise_cons.2 ⟨fun f hf k h1 h3 => ?_, h2.ne⟩⟩
  · rcases List.mem_cons.1 he with rfl | he
    · exact ⟨hP, fun k hk' => ⟨(ho k hk').2, .inr (Nat.le_trans h.kept.size (ho k hk').1)⟩⟩
    · exact h2.has e he
  · have := ((h.has f hf).2 k h3).1
    have := (ho k h1).1
    omega
theorem newBlk (h : St W0 M W L) (cs : List Value) (t : Nat) : St W0 M (W.alloc (.cells cs.toArray t)) (blk W.heap.size cs t :: L) :=
  h.new (.alloc _ _) (heap_alloc_new _ _) (fun k hk => by subst hk; exact ⟨Nat.le_refl _, by simp⟩)
/-- One entry changes. -/
theorem upd (h : St W0 M W L) {i : Nat} (hi : L[i]? = some e) (hk : Kpt e.own W W') (hP : e'.P W') (ho : ∀ k, e'.own k → (e.own k ∨ W.heap.size ≤ k) ∧ k < W'.heap.size) : St W0 M W' (L.set i e') := by
  have hm := List.mem_of_getElem? hi
  have hlt := (List.getElem?_eq_some_iff.1 hi).1
  have hel := (List.getElem?_eq_some_iff.1 hi).2
  have hne := List.pairwise_iff_getElem.1 h.ne
  refine ⟨h.kept.trans hk (fun k hk' => ((h.has e hm).2 k hk').2), fun f hf => ?_, List.pairwise_iff_getElem.2 fun a b ha hb hab k h1 h2 => ?_⟩
  · obtain ⟨j, hj, rfl⟩ := List.getElem_of_mem hf
    rw [List.length_set] at hj
    rcases Nat.decEq j i with hji | rfl
    · rw [List.getElem_set_ne (Ne.symm hji)]
      have hf' := h.has L[j] (List.getElem_mem hj)
      refine ⟨L[j].loc W W' (fun k ho' => hk.block k (hf'.2 k ho').1 (fun he => ?_)) hf'.1, fun k ho' => ⟨Nat.lt_of_lt_of_le (hf'.2 k ho').1 hk.size, (hf'.2 k ho').2⟩⟩
      rcases Nat.lt_or_gt_of_ne hji with hlt' | hgt
      · exact hne j i hj hlt hlt' k ho' (hel ▸ he)
      · exact hne i j hlt hj hgt k (hel ▸ he) ho'
    · rw [List.getElem_set_self]
      exact ⟨hP, fun k hk' => ⟨(ho k hk').2, (ho k hk').1.elim (fun h1 => ((h.has e hm).2 k h1).2) (fun h1 => .inr (Nat.le_trans h.kept.size h1))⟩⟩
  · rw [List.length_set] at ha hb
    have key : ∀ (j : Nat) (hj : j < L.length), j ≠ i → L[j].own k → ¬ e'.own k := fun j hj hji h3 h4 => by
      rcases (ho k h4).1 with h5 | h5
      · rcases Nat.lt_or_gt_of_ne hji with hlt' | hgt
        · exact hne j i hj hlt hlt' k h3 (hel ▸ h5)
        · exact hne i j hlt hj hgt k (hel ▸ h5) h3
      · have := ((h.has _ (List.getElem_mem hj)).2 k h3).1
        omega
    rcases Nat.decEq a i with hai | rfl
    · rw [List.getElem_set_ne (Ne.symm hai)] at h1
      rcases Nat.decEq b i with hbi | rfl
      · rw [List.getElem_set_ne (Ne.symm hbi)] at h2
        exact hne a b ha hb hab k h1 h2
      · rw [List.getElem_set_self] at h2
        exact key a (by simpa using ha) hai h1 h2
    · rw [List.getElem_set_self] at h1
      rw [List.getElem_set_ne (by omega)] at h2
      exact key b (by simpa using hb) (by omega) h2 h1
/-- A part of what is owned, in an order of its own; and the rest. -/
theorem perm (h : St W0 M W L) {L' : List Ent} (hp : L.Perm L') : St W0 M W L' :=
  ⟨h.kept, fun e he => h.has e (hp.mem_iff.2 he), (hp.pairwise_iff (fun {x y} hxy k h1 h2 => hxy k h2 h1)).1 h.ne⟩
theorem drop1 (h : St W0 M W (e :: L)) : St W0 M W L := ⟨h.kept, fun f hf => h.has f (List.mem_cons_of_mem _ hf), (List.pairwise_cons.1 h.ne).2⟩
theorem tail {F : List Ent} (h : St W0 M W (F ++ L)) : St W0 M W L := ⟨h.kept, fun f hf => h.has f (List.mem_append_right _ hf), (List.pairwise_append.1 h.ne).2.1⟩
theorem focus {F : List Ent} (h : St W0 M W (F ++ L)) : St W (owns F) W F :=
  ⟨.refl _ _, fun e he => ⟨(h.has e (List.mem_append_left _ he)).1, fun k hk => ⟨((h.has e (List.mem_append_left _ he)).2 k hk).1, .inl ⟨e, he, hk⟩⟩⟩, (List.pairwise_append.1 h.ne).1⟩
/-- Behind a call: what it had is as it says, the rest as it was. -/
theorem join {F G : List Ent} (h : St W0 M W (F ++ L)) (hc : St W (owns F) W' G) : St W0 M W' (G ++ L) := by
  have hF : ∀ k, owns F k → M k ∨ W0.heap.size ≤ k := fun k ⟨e, he, hk⟩ => ((h.has e (List.mem_append_left _ he)).2 k hk).2
  have hL : ∀ f ∈ L, ∀ k, f.own k → k < W.heap.size ∧ ¬ owns F k := fun f hf k hk =>
    ⟨((h.has f (List.mem_append_right _ hf)).2 k hk).1, fun ⟨e, he, hk'⟩ => (List.pairwise_append.1 h.ne).2.2 e he f hf k hk' hk⟩
  refine ⟨h.kept.trans hc.kept hF, fun f hf => ?_, List.pairwise_append.2 ⟨hc.ne, (List.pairwise_append.1 h.ne).2.1, fun f hf g hg k h1 h2 => ?_⟩⟩
  · rcases List.mem_append.1 hf with hf | hf
    · exact ⟨(hc.has f hf).1, fun k hk => ⟨((hc.has f hf).2 k hk).1, (((hc.has f hf).2 k hk).2).elim (hF k) (fun h3 => .inr (Nat.le_trans h.kept.size h3))⟩⟩
    · have h3 := h.has f (List.mem_append_right _ hf)
      exact ⟨f.loc W W' (fun k hk => hc.kept.block k (hL f hf k hk).1 (hL f hf k hk).2) h3.1, fun k hk => ⟨Nat.lt_of_lt_of_le (h3.2 k hk).1 hc.kept.size, (h3.2 k hk).2⟩⟩
  · have h3 := hL g hg k h2
    rcases ((hc.has f hf).2 k h1).2 with h4 | h4
    · exact h3.2 h4
    · omega
theorem cast_ {L2 : List Ent} (h : St W0 M W L) (e : L = L2) : St W0 M W L2 := e ▸ h
/-- Something is told otherwise. -/
theorem turn (h : St W0 M W L) {i : Nat} (hi : L[i]? = some e) (hP : e.P W → e'.P W) (ho : ∀ k, e'.own k → e.own k) : St W0 M W (L.set i e') :=
  h.upd hi (.refl _ _) (hP (h.get hi)) (fun k hk => ⟨.inl (ho k hk), h.lt hi (ho k hk)⟩)
theorem blkE (h : St W0 M W L) {i g t : Nat} {cs : List Value} (hi : L[i]? = some (blk g cs t)) : W.heap[g]? = some (.cells cs.toArray t (0, 0)) := h.get hi
/-- A cell of a block. -/
theorem cell (h : St W0 M W L) {i g t : Nat} {cs : List Value} (hi : L[i]? = some (blk g cs t)) {j : Nat} {v : Value} (hv : cs[j]? = some v) : W.cell? ⟨g, j, none⟩ = some v := by
  rw [cell_of_row W g j cs.toArray t (0, 0) (h.blkE hi)]
  simpa using hv
theorem rowE (h : St W0 M W L) {i n c t z : Nat} {A : Option Addr} {cs : List Value} (hi : L[i]? = some (row A n c cs t z)) : W.ownsRow 0 t z (.slice A n c) n cs := h.get hi
/-- A cell of a row. -/
theorem rcell (h : St W0 M W L) {i g n c t z : Nat} {cs : List Value} (hi : L[i]? = some (row (some ⟨g, 0, none⟩) n c cs t z)) {j : Nat} {v : Value} (hv : cs[j]? = some v) : W.cell? ⟨g, j, none⟩ = some v := by
  have := (h.rowE hi).cells (g := g) rfl j v hv
  rwa [show (⟨g, 0, none⟩ : Addr).add j = ⟨g, j, none⟩ by unfold Addr.add; split <;> simp_all] at this
theorem rsome (h : St W0 M W L) {i n c t z : Nat} {A : Option Addr} {cs : List Value} (hi : L[i]? = some (row A n c cs t z)) (hn : 0 < n) : ∃ g, A = some ⟨g, 0, none⟩ := by
  rcases (h.rowE hi).2 with ⟨_, h2⟩ | ⟨g, cap, cur, e, _⟩
  · omega
  · exact ⟨g, by cases e; rfl⟩
theorem rlen (h : St W0 M W L) {i n c t z : Nat} {A : Option Addr} {cs : List Value} (hi : L[i]? = some (row A n c cs t z)) : cs.length = n * z := (h.rowE hi).1
theorem rcap (h : St W0 M W L) {i n c t z : Nat} {A : Option Addr} {cs : List Value} (hi : L[i]? = some (row A n c cs t z)) : n ≤ c ∧ c ≤ maxLen := by
  rcases (h.rowE hi).2 with ⟨e, h2⟩ | ⟨g, cap, cur, e, _, _, h1, h2, _⟩
  · have : c = 0 := (by cases e; rfl)
    exact ⟨by omega, by omega⟩
  · have : c = cap := (by cases e; rfl)
    omega
end St
/-! ### frames -/
def dfs : Option Nat → List Deferred
  | none => []
  | some D => [{ target := .collected D, args := #[] }]
def FrG (D : Option Nat) (l : List Value) : Act := ⟨l.toArray, dfs D⟩
abbrev Fr (l : List Value) : Act := FrG none l
theorem Fr_put {D : Option Nat} (l : List Value) (d : Nat) (v : Value) : (FrG D l).put (some d) v = FrG D (l.set d v) := by
  simp [FrG, Act.put]
section
variable {P : Program} {ops : Array Oper} {Q : Exit → Act → World → Prop} {R : Act → Prop} {rest : List Oper} {a : Act} {D : Option Nat} {l : List Value} {W W' W0 : World} {M : Nat → Prop} {L : List Ent} {v : Value} {op : Op} {d : Nat} {ty : TypeId} {ps : String} {af : Array Edge} {gd : Option (Nat × Bool)} {dst : Option Nat}
/-- An operation that gives a value. -/
theorem qw (v : Value) (hw : Region.wanted ⟨some d, op, ty, ps, af, gd⟩ (yielded ops (FrG D l).tmps) = true) (hr : (execOp (FrG D l).eval ⟨some d, op, ty, ps, af, gd⟩).run P W = .ok (.value v) W')
    (h : wpList P ops Q rest (FrG D (l.set d v)) W') : wpList P ops Q (⟨some d, op, ty, ps, af, gd⟩ :: rest) (FrG D l) W := by
  refine wpList_step fun K hK => ?_
  rw [if_pos hw]; unfold Oper.wp; rw [hr]
  exact hK _ _ ((Fr_put l d v) ▸ h)
theorem ql (v : Value) (hw : Region.wanted ⟨some d, op, ty, ps, af, gd⟩ (yielded ops (FrG D l).tmps) = true) (hr : (execOp (FrG D l).eval ⟨some d, op, ty, ps, af, gd⟩).run P W = .ok (.value v) W)
    (h : wpList P ops Q rest (FrG D (l.set d v)) W) : wpList P ops Q (⟨some d, op, ty, ps, af, gd⟩ :: rest) (FrG D l) W := qw v hw hr h
theorem qs (v : Value) (hw : Region.wanted ⟨some d, op, ty, ps, af, gd⟩ (yielded ops (FrG D l).tmps) = true) (hr : (execOp (FrG D l).eval ⟨some d, op, ty, ps, af, gd⟩).run P W = .ok (.value v) W)
    (h : wpStill P ops W R rest (FrG D (l.set d v))) : wpStill P ops W R (⟨some d, op, ty, ps, af, gd⟩ :: rest) (FrG D l) := by
  refine wpStill_step fun K hK => ?_
  rw [if_pos hw]; unfold Oper.still; rw [hr]
  exact ⟨rfl, hK _ ((Fr_put l d v) ▸ h)⟩
/-- An operation that its guard leaves out. -/
theorem qln (hw : Region.wanted ⟨some d, op, ty, ps, af, gd⟩ (yielded ops (FrG D l).tmps) = false) (h : wpList P ops Q rest (FrG D (l.set d undef)) W) : wpList P ops Q (⟨some d, op, ty, ps, af, gd⟩ :: rest) (FrG D l) W := by
  refine wpList_step fun K hK => ?_
  rw [if_neg (by rw [hw]; decide)]
  exact hK _ _ ((Fr_put l d undef) ▸ h)
/-- An operation without a value. -/
theorem qk (hw : Region.wanted ⟨none, op, ty, ps, af, gd⟩ (yielded ops (FrG D l).tmps) = true) (hr : (execOp (FrG D l).eval ⟨none, op, ty, ps, af, gd⟩).run P W = .ok .skip W')
    (h : wpList P ops Q rest (FrG D l) W') : wpList P ops Q (⟨none, op, ty, ps, af, gd⟩ :: rest) (FrG D l) W := by
  refine wpList_step fun K hK => ?_
  rw [if_pos hw]; unfold Oper.wp; rw [hr]
  exact hK _ _ h
/-- A call of a function. -/
theorem qc {f : FuncId} {args : Array Value} (hw : Region.wanted ⟨some d, op, ty, ps, af, gd⟩ (yielded ops (FrG D l).tmps) = true) (hr : (execOp (FrG D l).eval ⟨some d, op, ty, ps, af, gd⟩).run P W = .ok (.enter f args) W)
    (h : Calls P f args W fun e w' => ∃ v, e = .returned v ∧ wpList P ops Q rest (FrG D (l.set d v)) w') : wpList P ops Q (⟨some d, op, ty, ps, af, gd⟩ :: rest) (FrG D l) W := by
  refine wpList_step fun K hK => ?_
  rw [if_pos hw]; unfold Oper.wp; rw [hr]
  refine h.mono ?_
  rintro e w' ⟨v, rfl, hv⟩
  exact hK _ _ ((Fr_put l d v) ▸ hv)
theorem R_call {f : FuncId} {fn : Func} {as_ : Array Operand} {ts : Array TypeId} (args : Array Value) (hf : P.funcs[f]? = some fn) (hn : (fn.name == "runtime.NumGoroutine") = false) (hb : fn.body.isSome = true) (ha : as_.map a.eval = args) :
    (execOp a.eval ⟨dst, .call { callee := .value (.func f), args := as_, argTypes := ts }, ty, ps, af, gd⟩).run P W = .ok (.enter f args) W := by
  have hc : ¬ fn.body = none := by intro h; rw [h] at hb; cases hb
  have hm : ¬ fn.name = "runtime.NumGoroutine" := by simpa using hn
  have h0 : (program).run P W = .ok P W := rfl
  simp [execOp, resolve, Deferred.ofValue, invoke, Act.eval, ha, callFunc, h0, hf, hm, hc]
theorem R_bool {x : World} {p : Prop} [Decidable p] {r : Result Next} (h : r = .ok (.value (.bool (decide p))) x) (hp : p) : r = .ok (.value (.bool true)) x := by rw [h, decide_eq_true hp]
theorem R_nbool {x : World} {p : Prop} [Decidable p] {r : Result Next} (h : r = .ok (.value (.bool (decide p))) x) (hp : ¬ p) : r = .ok (.value (.bool false)) x := by rw [h, decide_eq_false hp]
theorem R_beq {x : World} {b c : Bool} {r : Result Next} (h : r = .ok (.value (.bool b)) x) (hb : b = c) : r = .ok (.value (.bool c)) x := by rw [h, hb]
theorem R_int {x : World} {k : IntKind} {m n : Int} {r : Result Next} (h : r = .ok (.value (.int k m)) x) (e : m = n) : r = .ok (.value (.int k n)) x := by rw [h, e]
theorem R_eq {x : World} {u v : Value} {r : Result Next} (h : r = .ok (.value u) x) (e : u = v) : r = .ok (.value v) x := by rw [h, e]
theorem w64 {n : Int} (h : -9223372036854775808 ≤ n ∧ n ≤ 9223372036854775807) : IntKind.i64.wrap n = n := by rw [IntKind.wrap_i64]; omega
theorem w32 {n : Int} (h : -2147483648 ≤ n ∧ n ≤ 2147483647) : IntKind.i32.wrap n = n := by
  unfold IntKind.wrap IntKind.bits IntKind.signed; simp; omega
theorem wu64 {n : Int} (h : 0 ≤ n ∧ n ≤ 18446744073709551615) : IntKind.u64.wrap n = n := by
  unfold IntKind.wrap IntKind.bits IntKind.signed; simp; omega
/-! reading -/
def aggB (P : Program) (t : TypeId) : Bool := match P.underlying t with | some (.struct _) => true | some (.array _ _) => true | some _ => false | none => true
def someB (P : Program) (t : TypeId) : Bool := (P.underlying t).isSome
theorem run_isAgg {t : TypeId} {b : Bool} (h : aggB P t = b) (hs : someB P t = true) : (isAgg t).run P W = .ok b W := by
  unfold aggB at h; unfold someB at hs
  cases hu : P.underlying t with
  | none => simp [hu] at hs
  | some u => rw [hu] at h; subst h; cases u <;> simp [isAgg, run_underlying hu]
theorem run_sizeOf {t n : Nat} (h : (P.info? t).map (·.size) = some n) : (sizeOf t).run P W = .ok n W := by
  cases hi : P.info? t with
  | none => rw [hi] at h; cases h
  | some i => rw [hi] at h; simp only [Option.map_some, Option.some.injEq] at h; simp [sizeOf, typeInfo, hi, h]
theorem R_load {t : TypeId} {x : Operand} {p : Addr} {v : Value} (hx : a.eval x = .pointer (some p)) (hu : aggB P t = false) (hs : someB P t = true) (hc : W.cell? p = some v) :
    (execOp a.eval ⟨dst, .load t x, ty, ps, af, gd⟩).run P W = .ok (.value v) W := by
  simp [execOp, Instr.loadAt, hx, Instr.sureAddr, loadVar, run_isAgg hu hs, load, Sem.run, hc]
theorem R_loadN {t : TypeId} {x : Operand} {p : Addr} (cs : List Value) (hx : a.eval x = .pointer (some p)) (hu : aggB P t = true) (hs : someB P t = true) (hn : (P.info? t).map (·.size) = some cs.length) (hc : ∀ j v, cs[j]? = some v → W.cell? (p.add j) = some v) :
    (execOp a.eval ⟨dst, .load t x, ty, ps, af, gd⟩).run P W = .ok (.value (.agg cs.toArray)) W := by
  simp [execOp, Instr.loadAt, hx, Instr.sureAddr, loadVar, run_isAgg hu hs, run_sizeOf hn, run_loadCells_list W p cs hc]
/-- The cells from a place on. -/
theorem cells_at {g o : Nat} {cs : List Value} (h : ∀ j v, cs[j]? = some v → W.cell? ⟨g, o + j, none⟩ = some v) : ∀ j v, cs[j]? = some v → W.cell? ((⟨g, o, none⟩ : Addr).add j) = some v := fun j v hv => by
  rw [Addr.add_lit]; exact h j v hv
theorem two_at {g o : Nat} {u v : Value} (h0 : W.cell? ⟨g, o, none⟩ = some u) (h1 : W.cell? ⟨g, o + 1, none⟩ = some v) : ∀ j x, [u, v][j]? = some x → W.cell? ((⟨g, o, none⟩ : Addr).add j) = some x := by
  intro j x hx; rw [Addr.add_lit]
  match j, hx with
  | 0, hx => cases hx; exact h0
  | 1, hx => cases hx; exact h1
  | n + 2, hx => simp at hx
theorem R_index {t : TypeId} {x y : Operand} {g n c z e : Nat} {k : IntKind} {i : Int} (hx : a.eval x = .slice (some ⟨g, 0, none⟩) n c) (hy : a.eval y = .int k i) (ht : P.underlying t = some (.slice e)) (hz : (P.info? e).map (·.size) = some z) (h0 : 0 ≤ i) (h1 : i < n) :
    (execOp a.eval ⟨dst, .indexAddr t x y, ty, ps, af, gd⟩).run P W = .ok (.value (.pointer (some ⟨g, i.toNat * z, none⟩))) W := by
  simp [execOp, Instr.indexAt, hx, hy, asIntOf, run_underlying ht, run_sizeOf hz, h0, h1, Addr.add_lit]
theorem R_index1 {t : TypeId} {x y : Operand} {g n c e : Nat} {k : IntKind} {i : Int} (hx : a.eval x = .slice (some ⟨g, 0, none⟩) n c) (hy : a.eval y = .int k i) (ht : P.underlying t = some (.slice e)) (hz : (P.info? e).map (·.size) = some 1) (h0 : 0 ≤ i) (h1 : i < n) :
    (execOp a.eval ⟨dst, .indexAddr t x y, ty, ps, af, gd⟩).run P W = .ok (.value (.pointer (some ⟨g, i.toNat, none⟩))) W := by
  rw [R_index hx hy ht hz h0 h1, Nat.mul_one]
/-- An element of a slice that begins anywhere. -/
theorem R_indexA {t : TypeId} {x y : Operand} {p : Addr} {n c z e : Nat} {k : IntKind} {i : Int} (hx : a.eval x = .slice (some p) n c) (hy : a.eval y = .int k i) (ht : P.underlying t = some (.slice e)) (hz : (P.info? e).map (·.size) = some z) (h0 : 0 ≤ i) (h1 : i < n) :
    (execOp a.eval ⟨dst, .indexAddr t x y, ty, ps, af, gd⟩).run P W = .ok (.value (.pointer (some (p.add (i.toNat * z))))) W := by
  simp [execOp, Instr.indexAt, hx, hy, asIntOf, run_underlying ht, run_sizeOf hz, h0, h1]
theorem run_sliceBound {k : IntKind} {i : Int} {y : Nat} {code : BoundsCode} (h0 : 0 ≤ i) (h1 : i ≤ y) : (Instr.sliceBound (.int k i) y code).run P W = .ok i.toNat W := by
  simp [Instr.sliceBound, asIntOf, h0, h1]
/-- Where a slice's rest begins. -/
def cutA (A : Option Addr) (c m z : Nat) : Option Addr := if c = m then A else A.map (·.add (m * z))
/-- A slice's head: s[:h]. -/
theorem R_sliceH {t : TypeId} {x y : Operand} {A : Option Addr} {n c z e : Nat} {k : IntKind} {i : Int} (hx : a.eval x = .slice A n c) (hy : a.eval y = .int k i) (ht : P.underlying t = some (.slice e)) (hz : (P.info? e).map (·.size) = some z) (h0 : 0 ≤ i) (h1 : i ≤ c) :
    (execOp a.eval ⟨dst, .slice t x none (some y) none, ty, ps, af, gd⟩).run P W = .ok (.value (.slice A i.toNat c)) W := by
  by_cases hc : c = 0
  · simp [execOp, Instr.sliceAt, Instr.slice, Instr.sliceBounds, run_sliceBound h0 h1, hx, hy, run_underlying ht, run_sizeOf hz, hc]
    simp [hc] at h1
    cases (show i = 0 by omega)
    simp [Instr.sliceBound, asIntOf]
  · cases A <;> simp [execOp, Instr.sliceAt, Instr.slice, Instr.sliceBounds, run_sliceBound h0 h1, hx, hy, run_underlying ht, run_sizeOf hz, hc, Addr.add_zero']
/-- A slice's rest: s[l:]. -/
theorem R_sliceL {t : TypeId} {x y : Operand} {A : Option Addr} {n c z e : Nat} {k : IntKind} {i : Int} (hx : a.eval x = .slice A n c) (hy : a.eval y = .int k i) (ht : P.underlying t = some (.slice e)) (hz : (P.info? e).map (·.size) = some z) (h0 : 0 ≤ i) (h1 : i ≤ n) :
    (execOp a.eval ⟨dst, .slice t x (some y) none none, ty, ps, af, gd⟩).run P W = .ok (.value (.slice (cutA A c i.toNat z) (n - i.toNat) (c - i.toNat))) W := by
  simp [execOp, Instr.sliceAt, Instr.slice, Instr.sliceBounds, run_sliceBound h0 h1, hx, hy, run_underlying ht, run_sizeOf hz, cutA]
end
/-! ### what changes the world -/
def splice (cs : List Value) (j : Nat) : List Value → List Value
  | [] => cs
  | v :: vs => splice (cs.set j v) (j + 1) vs
theorem splice_length : ∀ (vs cs : List Value) (j : Nat), (splice cs j vs).length = cs.length
  | [], _, _ => rfl
  | v :: vs, cs, j => by rw [splice, splice_length vs]; simp
theorem splice_eq : ∀ (vs cs : List Value) (j : Nat), j + vs.length ≤ cs.length → splice cs j vs = cs.take j ++ vs ++ cs.drop (j + vs.length)
  | [], cs, j, h => by simp [splice]
  | v :: vs, cs, j, h => by
    simp only [List.length_cons] at h ⊢
    rw [splice, splice_eq vs _ _ (by simp; omega), List.take_set, List.drop_set_of_lt (by omega)]
    have hj : j < cs.length := by omega
    rw [List.take_succ_eq_append_getElem hj]
    have h1 : (List.take j cs ++ [cs[j]]).set j v = List.take j cs ++ [v] := by
      rw [List.set_append_right _ _ (by simp; omega)]
      simp [List.length_take, Nat.min_eq_left (Nat.le_of_lt hj)]
    rw [h1]
    simp [Nat.add_assoc, Nat.add_comm 1]
section
variable {P : Program} {ops : Array Oper} {Q : Exit → Act → World → Prop} {R : Act → Prop} {rest : List Oper} {a : Act} {D : Option Nat} {l : List Value} {W W' W0 : World} {M : Nat → Prop} {L : List Ent} {v : Value} {op : Op} {d : Nat} {ty : TypeId} {ps : String} {af : Array Edge} {gd : Option (Nat × Bool)} {dst : Option Nat}
theorem R_store {t : TypeId} {x y : Operand} {g j tb : Nat} {cs : List Value} {v : Value} (news : List Value) (hg : W.heap[g]? = some (.cells cs.toArray tb (0, 0))) (hx : a.eval x = .pointer (some ⟨g, j, none⟩)) (hy : a.eval y = v) (hv : v.cells = news.toArray)
    (hn : (P.info? t).map (·.size) = some news.length) (h1 : ∀ u ∈ news, u.oneCell' = true) (hfit : j + news.length ≤ cs.length) :
    (execOp a.eval ⟨dst, .store t x y, ty, ps, af, gd⟩).run P W = .ok .skip (W.setRow g (splice cs j news).toArray) := by
  have h2 := run_storeCells_at (P := P) g j tb news 0 cs.toArray W hg (by simpa using hfit) h1
  rw [splice_eq _ _ _ hfit]
  simp only [Nat.add_zero] at h2
  simp [execOp, Instr.storeAt, hx, hy, Instr.sureAddr, storeVar, hv, run_sizeOf hn, h2]
theorem St.setBlk (HS : St W0 M W L) {i g tb : Nat} {cs cs' : List Value} (hi : L[i]? = some (blk g cs tb)) : St W0 M (W.setRow g cs'.toArray) (L.set i (blk g cs' tb)) :=
  HS.upd hi (.setRow _ _ _ rfl) (setRow_heap W g _ _ tb _ (HS.blkE hi)) (fun k hk => ⟨.inl hk, by have := HS.lt hi hk; simpa [World.setRow] using this⟩)
/-- A store into a block. -/
theorem ks {t : TypeId} {x y : Operand} {v : Value} (HS : St W0 M W L) (i : Nat) {g tb : Nat} {cs : List Value} (hi : L[i]? = some (blk g cs tb)) (j : Nat) (news : List Value) (hw : Region.wanted ⟨dst, .store t x y, ty, ps, af, gd⟩ (yielded ops (FrG D l).tmps) = true)
    (hx : (FrG D l).eval x = .pointer (some ⟨g, j, none⟩)) (hy : (FrG D l).eval y = v) (hv : v.cells = news.toArray) (hn : (P.info? t).map (·.size) = some news.length) (h1 : ∀ u ∈ news, u.oneCell' = true) (hfit : j + news.length ≤ cs.length) (hd : dst = none)
    (h : ∀ W', St W0 M W' (L.set i (blk g (splice cs j news) tb)) → wpList P ops Q rest (FrG D l) W') : wpList P ops Q (⟨dst, .store t x y, ty, ps, af, gd⟩ :: rest) (FrG D l) W := by
  subst hd
  exact qk hw (R_store news (HS.blkE hi) hx hy hv hn h1 hfit) (h _ (HS.setBlk hi))
theorem St.setRow_ (HS : St W0 M W L) {i g n c t z : Nat} {cs : List Value} (hi : L[i]? = some (row (some ⟨g, 0, none⟩) n c cs t z)) (j : Nat) (news : List Value) (hfit : j + news.length ≤ cs.length) :
    ∃ cur : List Value, W.heap[g]? = some (.cells cur.toArray t (0, 0)) ∧ cs.length ≤ cur.length ∧ St W0 M (W.setRow g (splice cur j news).toArray) (L.set i (row (some ⟨g, 0, none⟩) n c (splice cs j news) t z)) := by
  have hr := HS.rowE hi
  rcases hr.2 with ⟨e, _⟩ | ⟨g', cap, cur, e, hb, hg, h1, h2, h3, h4⟩
  · cases e
  · cases e
    have hl : cs.length = n * z := hr.1
    have hle : n * z ≤ cur.size := by rw [h3]; exact Nat.mul_le_mul_right _ h1
    have hsz : (splice cur.toList j news).length = cur.size := by rw [splice_length]; simp
    refine ⟨cur.toList, by simpa using hg, by rw [hl]; simpa using hle, HS.upd hi (.setRow _ _ _ rfl) ⟨by rw [splice_length]; exact hl, .inr ⟨g, c, _, rfl, Nat.zero_le _, setRow_heap W g _ _ t _ hg, h1, h2, by simpa [hsz] using h3, ?_⟩⟩ (fun k hk => ⟨.inl hk, by have := HS.lt hi hk; simpa [World.setRow] using this⟩)⟩
    show (splice cur.toList j news).take (n * z) = _
    have hfit2 : j + news.length ≤ cur.toList.length := by simp; omega
    rw [splice_eq _ _ _ hfit2, splice_eq _ _ _ hfit, ← h4, List.take_append, List.take_append]
    have e1 : (List.take j cur.toList).length = j := by simp at hfit2 ⊢; omega
    have e2 : List.take (n * z) (List.take j cur.toList) = List.take j (List.take (n * z) cur.toList) := by rw [List.take_take, List.take_take]; congr 1; omega
    have e3 : List.take (n * z - (List.take j cur.toList).length) news = news := by rw [e1]; exact List.take_of_length_le (by omega)
    rw [e2, e3, List.drop_take]
    congr 2
    simp [List.length_append, e1]
    try omega
/-- A store into a row. -/
theorem kr {t : TypeId} {x y : Operand} {v : Value} (HS : St W0 M W L) (i : Nat) {g n c tb z : Nat} {cs : List Value} (hi : L[i]? = some (row (some ⟨g, 0, none⟩) n c cs tb z)) (j : Nat) (news : List Value) (hw : Region.wanted ⟨dst, .store t x y, ty, ps, af, gd⟩ (yielded ops (FrG D l).tmps) = true)
    (hx : (FrG D l).eval x = .pointer (some ⟨g, j, none⟩)) (hy : (FrG D l).eval y = v) (hv : v.cells = news.toArray) (hn : (P.info? t).map (·.size) = some news.length) (h1 : ∀ u ∈ news, u.oneCell' = true) (hfit : j + news.length ≤ cs.length) (hd : dst = none)
    (h : ∀ W', St W0 M W' (L.set i (row (some ⟨g, 0, none⟩) n c (splice cs j news) tb z)) → wpList P ops Q rest (FrG D l) W') : wpList P ops Q (⟨dst, .store t x y, ty, ps, af, gd⟩ :: rest) (FrG D l) W := by
  subst hd
  obtain ⟨cur, hg, hle, HS2⟩ := HS.setRow_ hi j news hfit
  exact qk hw (R_store news hg hx hy hv hn h1 (by omega)) (h _ HS2)
/-- A new block: alloc, box, a literal's. -/
theorem kb (HS : St W0 M W L) (cs : List Value) (t : Nat) (g0 : Nat → Value) (hw : Region.wanted ⟨some d, op, ty, ps, af, gd⟩ (yielded ops (FrG D l).tmps) = true)
    (hr : (execOp (FrG D l).eval ⟨some d, op, ty, ps, af, gd⟩).run P W = .ok (.value (g0 W.heap.size)) (W.alloc (.cells cs.toArray t)))
    (h : ∀ g W', St W0 M W' (blk g cs t :: L) → wpList P ops Q rest (FrG D (l.set d (g0 g))) W') : wpList P ops Q (⟨some d, op, ty, ps, af, gd⟩ :: rest) (FrG D l) W :=
  qw _ hw hr (h _ _ (HS.newBlk cs t))
theorem row_new (W : World) (n c : Nat) (cs cur : List Value) (t z : Nat) (h1 : cs.length = n * z) (h2 : cur.length = c * z) (h3 : n ≤ c) (h4 : c ≤ maxLen) (h5 : cur.take (n * z) = cs) : (row (some ⟨W.heap.size, 0, none⟩) n c cs t z).P (W.alloc (.cells cur.toArray t)) :=
  ⟨h1, .inr ⟨_, _, _, rfl, Nat.zero_le _, heap_alloc_new _ _, h3, h4, by simpa using h2, by simpa using h5⟩⟩
theorem St.newRow (HS : St W0 M W L) (n c : Nat) (cs cur : List Value) (t z : Nat) (h1 : cs.length = n * z) (h2 : cur.length = c * z) (h3 : n ≤ c) (h4 : c ≤ maxLen) (h5 : cur.take (n * z) = cs) : St W0 M (W.alloc (.cells cur.toArray t)) (row (some ⟨W.heap.size, 0, none⟩) n c cs t z :: L) :=
  HS.new (.alloc _ _) (row_new W n c cs cur t z h1 h2 h3 h4 h5) (fun k hk => by simp [row, Value.ownBlock] at hk; subst hk; exact ⟨Nat.le_refl _, by simp⟩)
/-- A literal slice. -/
theorem kl (HS : St W0 M W L) (n : Nat) (cs : List Value) (t z : Nat) (hw : Region.wanted ⟨some d, op, ty, ps, af, gd⟩ (yielded ops (FrG D l).tmps) = true)
    (hr : (execOp (FrG D l).eval ⟨some d, op, ty, ps, af, gd⟩).run P W = .ok (.value (.slice (some ⟨W.heap.size, 0, none⟩) n n)) (W.alloc (.cells cs.toArray t))) (h1 : cs.length = n * z) (h2 : n ≤ 140737488355327)
    (h : ∀ g W', St W0 M W' (row (some ⟨g, 0, none⟩) n n cs t z :: L) → wpList P ops Q rest (FrG D (l.set d (.slice (some ⟨g, 0, none⟩) n n))) W') : wpList P ops Q (⟨some d, op, ty, ps, af, gd⟩ :: rest) (FrG D l) W :=
  qw _ hw hr (h _ _ (HS.newRow n n cs cs t z h1 h1 (Nat.le_refl _) (by unfold maxLen; omega) (List.take_of_length_le (by omega))))
theorem madeCells_list (zs : List Value) (n : Nat) (hz : 0 < zs.length) : madeCells zs.toArray (n * zs.length) = ((List.replicate n zs).flatten).toArray := by
  apply Array.ext'
  simp only [madeCells]
  apply List.ext_getElem?
  intro j
  have hlen : ((List.replicate n zs).flatten).length = n * zs.length := by simp
  rcases Nat.lt_or_ge j (n * zs.length) with hj | hj
  · have hm : j % zs.length < zs.length := Nat.mod_lt _ hz
    simp only [Array.toList_map, Array.toList_range, List.getElem?_map, List.getElem?_range hj, Option.map_some]
    have key : ∀ (n j : Nat), j < n * zs.length → ((List.replicate n zs).flatten)[j]? = zs[j % zs.length]? := by
      intro n
      induction n with
      | zero => intro j hj; omega
      | succ n ih =>
        intro j hj
        rw [List.replicate_succ, List.flatten_cons]
        rcases Nat.lt_or_ge j zs.length with h1 | h1
        · rw [List.getElem?_append_left h1, Nat.mod_eq_of_lt h1]
        · rw [List.getElem?_append_right h1, ih (j - zs.length) (by rw [Nat.add_mul, Nat.one_mul] at hj; omega), Nat.mod_eq_sub_mod h1]
    rw [key n j hj, List.getElem?_eq_getElem hm]
    simp [hm]
  · rw [List.getElem?_eq_none (by simpa using hj), List.getElem?_eq_none (by simpa using hj)]
theorem zeroV {e : TypeId} {zs : List Value} (hz : ((P.info? e).bind (·.zero)).map (·.cells) = some zs.toArray) : ∃ i zv, P.info? e = some i ∧ i.zero = some zv ∧ zv.cells = zs.toArray := by
  cases hi : P.info? e with
  | none => rw [hi] at hz; cases hz
  | some i =>
    rw [hi] at hz
    simp only [Option.bind_some] at hz
    cases hv : i.zero with
    | none => rw [hv] at hz; cases hz
    | some zv => rw [hv] at hz; exact ⟨i, zv, rfl, hv, by simpa using hz⟩
/-- make([]T, n). -/
theorem km {t : TypeId} {x y : Operand} {e : Nat} {k1 k2 : IntKind} (HS : St W0 M W L) (n : Nat) (zs : List Value) (by_ : Nat) (hw : Region.wanted ⟨some d, .makeSlice t x y, ty, ps, af, gd⟩ (yielded ops (FrG D l).tmps) = true)
    (hx : (FrG D l).eval x = .int k1 (n : Int)) (hy : (FrG D l).eval y = .int k2 (n : Int)) (ht : P.underlying t = some (.slice e)) (hz : ((P.info? e).bind (·.zero)).map (·.cells) = some zs.toArray) (hs : (P.info? e).map (·.size) = some zs.length) (hb : (P.info? e).map (·.bytes) = some by_) (h0 : 0 < zs.length) (hn : n ≤ 140737488355327) (hm : by_ * n ≤ 281474976710656)
    (h : ∀ g W', St W0 M W' (row (some ⟨g, 0, none⟩) n n ((List.replicate n zs).flatten) e zs.length :: L) → wpList P ops Q rest (FrG D (l.set d (.slice (some ⟨g, 0, none⟩) n n))) W') : wpList P ops Q (⟨some d, .makeSlice t x y, ty, ps, af, gd⟩ :: rest) (FrG D l) W := by
  obtain ⟨i, zv, hi, hzv, hc⟩ := zeroV hz
  rw [hi] at hs hb
  have hs' : i.size = zs.length := by simpa using hs
  have hb' : i.bytes = by_ := by simpa using hb
  have hr := run_make (P := P) W t e i zv ht hi hzv k1 k2 (n : Int) (n : Int) (by omega) (Int.le_refl _) (by rw [hb', ← Int.natCast_mul]; omega) (by omega)
  rw [hc, hs', Int.toNat_natCast, madeCells_list zs n h0] at hr
  refine qw (W' := W.alloc (.cells ((List.replicate n zs).flatten).toArray e)) (.slice (some ⟨W.heap.size, 0, none⟩) n n) hw ?_ (h _ _ (HS.newRow n n _ _ e zs.length (by simp) (by simp) (Nat.le_refl _) (by unfold maxLen; omega) (List.take_of_length_le (by simp))))
  simp [execOp, hx, hy, hr]
/-- make([]T, 0, n). -/
theorem km0 {t : TypeId} {x y : Operand} {e : Nat} {k1 k2 : IntKind} (HS : St W0 M W L) (n : Nat) (zs : List Value) (by_ : Nat) (hw : Region.wanted ⟨some d, .makeSlice t x y, ty, ps, af, gd⟩ (yielded ops (FrG D l).tmps) = true)
    (hx : (FrG D l).eval x = .int k1 0) (hy : (FrG D l).eval y = .int k2 (n : Int)) (ht : P.underlying t = some (.slice e)) (hz : ((P.info? e).bind (·.zero)).map (·.cells) = some zs.toArray) (hs : (P.info? e).map (·.size) = some zs.length) (hb : (P.info? e).map (·.bytes) = some by_) (h0 : 0 < zs.length) (hn : n ≤ 140737488355327) (hm : by_ * n ≤ 281474976710656)
    (h : ∀ g W', St W0 M W' (row (some ⟨g, 0, none⟩) 0 n [] e zs.length :: L) → wpList P ops Q rest (FrG D (l.set d (.slice (some ⟨g, 0, none⟩) 0 n))) W') : wpList P ops Q (⟨some d, .makeSlice t x y, ty, ps, af, gd⟩ :: rest) (FrG D l) W := by
  obtain ⟨i, zv, hi, hzv, hc⟩ := zeroV hz
  rw [hi] at hs hb
  have hs' : i.size = zs.length := by simpa using hs
  have hb' : i.bytes = by_ := by simpa using hb
  have hr := run_make (P := P) W t e i zv ht hi hzv k1 k2 0 (n : Int) (by omega) (by omega) (by rw [hb', ← Int.natCast_mul]; omega) (by omega)
  rw [hc, hs', Int.toNat_natCast, madeCells_list zs n h0] at hr
  refine qw (W' := W.alloc (.cells ((List.replicate n zs).flatten).toArray e)) (.slice (some ⟨W.heap.size, 0, none⟩) 0 n) hw ?_ (h _ _ (HS.newRow 0 n _ _ e zs.length (by simp) (by simp) (Nat.zero_le _) (by unfold maxLen; omega) (by simp)))
  simp [execOp, hx, hy, hr]
/-- What is appended. -/
structure Src (W : World) (x : Value) (m z : Nat) (news : List Value) : Prop where
  val : ∃ A c, x = .slice A m c ∧ ((A = none ∧ m = 0) ∨ ∃ ad, A = some ad ∧ ∀ j u, news[j]? = some u → W.cell? (ad.add j) = some u)
  len : news.length = m * z
  one : ∀ u ∈ news, u.oneCell' = true
theorem Src.of_row (HS : St W0 M W L) {i n c t z : Nat} {A : Option Addr} {cs : List Value} (hi : L[i]? = some (row A n c cs t z)) (h1 : ∀ u ∈ cs, u.oneCell' = true) : Src W (.slice A n c) n z cs := by
  refine ⟨⟨A, c, rfl, ?_⟩, HS.rlen hi, h1⟩
  rcases (HS.rowE hi).2 with ⟨e, h2⟩ | ⟨g, cap, cur, e, _⟩
  · cases e; exact .inl ⟨rfl, rfl⟩
  · cases e; exact .inr ⟨_, rfl, (HS.rowE hi).cells rfl⟩
theorem run_append_none {t ty' e : TypeId} {i : TypeInfo} (ht : P.underlying t = some (.slice e)) (hi : P.info? e = some i) (A : Option Addr) (n c c2 : Nat) (hc : n ≤ c) (hc2 : c ≤ 9223372036854775807) :
    (Builtin.append_ #[t, t] ty' #[.slice A n c, .slice none 0 c2]).run P W = .ok (.slice A n c) W := by
  cases A <;> simp [Builtin.append_, run_underlying ht, sizeOf, typeInfo, hi, Builtin.lenOf, hc, Builtin.firstCells, storeCells]
theorem append_own {t ty' e : TypeId} (HS : St W0 M W L) {i n c z : Nat} {A : Option Addr} {cs : List Value} (hi : L[i]? = some (row A n c cs e z)) (zs : List Value) (by_ : Nat) {x : Value} {m : Nat} {news : List Value} (hsrc : Src W x m z news)
    (ht : P.underlying t = some (.slice e)) (hz : ((P.info? e).bind (·.zero)).map (·.cells) = some zs.toArray) (hzl : zs.length = z) (hs : (P.info? e).map (·.size) = some z) (hb : (P.info? e).map (·.bytes) = some by_) (h0 : 0 < z) (h63 : n + m ≤ 140737488355327) (hbytes : (n + m) * by_ ≤ 140737488355328) :
    ∃ A' c' W', (Builtin.append_ #[t, t] ty' #[.slice A n c, x]).run P W = .ok (.slice A' (n + m) c') W' ∧ St W0 M W' (L.set i (row A' (n + m) c' (cs ++ news) e z)) ∧ Kpt (row A n c cs e z).own W W' := by
  obtain ⟨ti, zv, hti, hzv, hc⟩ := zeroV hz
  rw [hti] at hs hb
  have hs' : ti.size = z := by simpa using hs
  have hb' : ti.bytes = by_ := by simpa using hb
  obtain ⟨B, c2, rfl, hB⟩ := hsrc.val
  have hr := HS.rowE hi
  rcases hB with ⟨rfl, rfl⟩ | ⟨ad, rfl, hcell⟩
  · have hn : news = [] := List.eq_nil_of_length_eq_zero (by rw [hsrc.len]; omega)
    subst hn
    have hcap := HS.rcap hi
    refine ⟨A, c, W, run_append_none ht hti A n c c2 hcap.1 (by have := hcap.2; unfold maxLen at this; omega), ?_⟩
    rw [Nat.add_zero, List.append_nil]
    exact ⟨HS.turn hi id (fun _ h => h), .refl _ _⟩
  · obtain ⟨v', w', hrun, hown, hgr, _, hat⟩ := run_append_own_at W 0 t ty' e ti zv z by_ ht hti hzv hs' hb' (by rw [hc]; simpa using hzl) h0 _ n cs hr ad m c2 news hsrc.len hcell hsrc.one (by unfold maxLen; omega) hbytes (Nat.zero_le _)
    have hv : ∃ A' c', v' = .slice A' (n + m) c' := by
      rcases hown.2 with ⟨e, h⟩ | ⟨g, cap, cur, e, _⟩
      · exact ⟨none, 0, by rw [e, h]⟩
      · exact ⟨_, _, e⟩
    obtain ⟨A', c', rfl⟩ := hv
    refine ⟨A', c', w', hrun, HS.upd hi (e' := row A' (n + m) c' (cs ++ news) e z) (.of_grown hgr (fun k hk => hk)) hown (fun k hk => ⟨?_, (hown.lt k hk).2⟩), .of_grown hgr (fun k hk => hk)⟩
    have hk' : (Value.slice A' (n + m) c').ownBlock = some k := hk
    rcases hat with h | h
    · exact .inl (show (Value.slice A n c).ownBlock = some k from h ▸ hk')
    · rw [h] at hk'
      exact .inr (Nat.le_of_eq (Option.some.inj hk'))
theorem St.nilRow (HS : St W0 M W L) (t z : Nat) : St W0 M W (row none 0 0 [] t z :: L) :=
  HS.new (.refl _ _) (World.ownsRow_nil W 0 t z) (fun k hk => by cases hk)
theorem R_append {t : TypeId} {s x : Operand} {u v : Value} {r : Value} (hs : a.eval s = u) (hx : a.eval x = v) (h : (Builtin.append_ #[t, t] ty #[u, v]).run P W = .ok r W') :
    (execOp a.eval ⟨dst, .call { callee := .builtin .append, args := #[s, x], argTypes := #[t, t] }, ty, ps, af, gd⟩).run P W = .ok (.value r) W' := by
  simp [execOp, resolve, invoke, builtin, hs, hx, h]
/-- append to a row of one's own. -/
theorem ka {t e : TypeId} {s x : Operand} (HS : St W0 M W L) (i : Nat) {n c z m : Nat} {A : Option Addr} {cs news : List Value} {xv : Value} (hi : L[i]? = some (row A n c cs e z)) (hsrc : Src W xv m z news) (zs : List Value) (by_ : Nat)
    (hw : Region.wanted ⟨some d, .call { callee := .builtin .append, args := #[s, x], argTypes := #[t, t] }, ty, ps, af, gd⟩ (yielded ops (FrG D l).tmps) = true)
    (hs : (FrG D l).eval s = .slice A n c) (hx : (FrG D l).eval x = xv)
    (ht : P.underlying t = some (.slice e)) (hz : ((P.info? e).bind (·.zero)).map (·.cells) = some zs.toArray) (hzl : zs.length = z) (hsz : (P.info? e).map (·.size) = some z) (hb : (P.info? e).map (·.bytes) = some by_) (h0 : 0 < z) (h63 : n + m ≤ 140737488355327) (hbytes : (n + m) * by_ ≤ 140737488355328)
    (h : ∀ A' c' W', St W0 M W' (L.set i (row A' (n + m) c' (cs ++ news) e z)) → wpList P ops Q rest (FrG D (l.set d (.slice A' (n + m) c'))) W') :
    wpList P ops Q (⟨some d, .call { callee := .builtin .append, args := #[s, x], argTypes := #[t, t] }, ty, ps, af, gd⟩ :: rest) (FrG D l) W := by
  obtain ⟨A', c', W', hrun, HS', _⟩ := append_own (ty' := ty) HS hi zs by_ hsrc ht hz hzl hsz hb h0 h63 hbytes
  exact qw _ hw (R_append hs hx hrun) (h _ _ _ HS')
/-! the code -/
/-- A drawn region whose first n rows only read. -/
theorem rg_still {id : Nat} {ol : List Oper} (HS : St W0 M W L) (n : Nat) (hm : P.follows .mixedOrders = true) (hB : Region.lexTailB .any ol.toArray n = true)
    (h : ∀ W', St W0 M W' L → Kpt (fun _ => False) W W' → wpStill P ol.toArray W' (fun a' => wpList P ol.toArray Q (ol.drop n) a' W') (ol.take n) a) : (Code.region id ol.toArray true).wp P Q a W :=
  wp_region_still_tail n hm hB (h _ (HS.drew _) (.drew _ _))
theorem calls_enter {f : FuncId} {fn : Func} {c : Code} {args : Array Value} {w : World} {R : Ending → World → Prop} (fl : List Value) (hf : P.funcs[f]? = some fn) (hb : fn.body = some c) (ha : (args.toList ++ List.replicate (fn.ntmps - args.size) undef) = fl)
    (h : c.wp P (bodyPost P fn R) (Fr fl) w) : Calls P f args w R := by
  refine calls_of_wp hf hb ?_
  have e : (args ++ Array.replicate (fn.ntmps - args.size) undef) = fl.toArray := by rw [← ha]; apply Array.ext'; simp
  rw [e]; exact h
theorem ret_ {fn : Func} {R : Ending → World → Prop} (v : Value) (hr : (results fn (Fr l).tmps).run P W = .ok v W) (h : R (.returned v) W) : bodyPost P fn R .ret (Fr l) W := ⟨rfl, v, hr, h⟩
theorem end_ {fn : Func} {R : Ending → World → Prop} (v : Value) (hr : (results fn (Fr l).tmps).run P W = .ok v W) (h : R (.returned v) W) : bodyPost P fn R .normal (Fr l) W := ⟨rfl, v, hr, h⟩
end
/-! ### small words -/
section
variable {P : Program} {Q : Exit → Act → World → Prop} {next : Act → World → Prop} {a : Act} {D : Option Nat} {l : List Value} {W W' W0 : World} {M : Nat → Prop} {L : List Ent} {id j : Nat}
theorem x_then (h : next a W) : Exit.then next Q .normal a W := h
theorem x_thenE (h : Q (.exit id) a W) : Exit.then next Q (.exit id) a W := h
theorem x_thenR (h : Q .ret a W) : Exit.then next Q .ret a W := h
theorem x_inb (h : Q .normal a W) : Exit.inBlock id Q .normal a W := h
theorem x_inbR (h : Q .ret a W) : Exit.inBlock id Q .ret a W := h
theorem x_hit (h : Q .normal a W) : Exit.inBlock id Q (.exit id) a W := by simpa [Exit.inBlock] using h
theorem one_ {news : List Value} (h : news.all (·.oneCell') = true) : ∀ u ∈ news, u.oneCell' = true := List.all_eq_true.1 h
theorem beq_t {x y : Int} (h : x = y) : (x == y) = true := beq_iff_eq.2 h
theorem beq_f {x y : Int} (h : ¬ x = y) : (x == y) = false := beq_eq_false_iff_ne.2 h
theorem bne_t {x y : Int} (h : ¬ x = y) : (x != y) = true := bne_iff_ne.2 h
theorem bne_f {x y : Int} (h : x = y) : (x != y) = false := by simp [h]
theorem k_eq {x : Value} {k : IntKind} {m n : Int} (h : x = .int k m) (e : m = n) : x = .int k n := e ▸ h
theorem owns_nil (k : Nat) : ¬ owns [] k := fun ⟨_, h, _⟩ => nomatch h
/-- A cell that was there, of what nothing writes. -/
theorem St.old (HS : St W0 M W L) {p : Addr} {v : Value} (hM : ¬ M p.block) (h : W0.cell? p = some v) : W.cell? p = some v :=
  (World.cell?_of_block (HS.kept.block p.block (World.block_lt_of_cell? W0 p h) hM)).trans h
theorem St.old0 (HS : St W0 (owns []) W L) {p : Addr} {v : Value} (h : W0.cell? p = some v) : W.cell? p = some v := HS.old (owns_nil _) h
/-- Cells that are read. -/
def Rd (W : World) (A : Option Addr) (cs : List Value) : Prop := ∀ j v, cs[j]? = some v → ∃ ad, A = some ad ∧ W.cell? (ad.add j) = some v
theorem Rd.below {A : Option Addr} {cs : List Value} (h : Rd W A cs) (hb : Below W.heap.size W W') : Rd W' A cs := fun j v hv =>
  let ⟨ad, e, hc⟩ := h j v hv; ⟨ad, e, (hb.cell (World.block_lt_of_cell? W _ hc)).trans hc⟩
theorem Rd.old0 {A : Option Addr} {cs : List Value} (h : Rd W0 A cs) (HS : St W0 (owns []) W L) : Rd W A cs := fun j v hv =>
  let ⟨ad, e, hc⟩ := h j v hv; ⟨ad, e, HS.old0 hc⟩
theorem Rd.isSome_ {A : Option Addr} {cs : List Value} (h : Rd W A cs) (hn : 0 < cs.length) : ∃ ad, A = some ad := by
  obtain ⟨ad, e, _⟩ := h 0 _ (List.getElem?_eq_getElem hn); exact ⟨ad, e⟩
theorem Rd.at_ {ad : Addr} {cs : List Value} (h : Rd W (some ad) cs) {j : Nat} {v : Value} (hv : cs[j]? = some v) : W.cell? (ad.add j) = some v := by
  obtain ⟨_, e, hc⟩ := h j v hv; cases e; exact hc
theorem Rd.row (HS : St W0 M W L) {i n c t z : Nat} {A : Option Addr} {cs : List Value} (hi : L[i]? = some (row A n c cs t z)) : Rd W A cs := by
  rcases (HS.rowE hi).2 with ⟨e, h2⟩ | ⟨g, cap, cur, e, _⟩
  · intro j v hv
    have := (HS.rowE hi).1
    rw [h2, Nat.zero_mul] at this
    rw [List.eq_nil_of_length_eq_zero this] at hv; simp at hv
  · intro j v hv
    cases e
    exact ⟨_, rfl, (HS.rowE hi).cells rfl j v hv⟩
theorem Src.of_rd {A : Option Addr} {n c z : Nat} {cs : List Value} (h : Rd W A cs) (hl : cs.length = n * z) (hz : 0 < z) (hA : n = 0 → A = none ∨ ∃ ad, A = some ad) (h1 : ∀ u ∈ cs, u.oneCell' = true) : Src W (.slice A n c) n z cs := by
  refine ⟨⟨A, c, rfl, ?_⟩, hl, h1⟩
  cases A with
  | none =>
    left
    refine ⟨rfl, ?_⟩
    rcases Nat.eq_zero_or_pos n with h0 | h0
    · exact h0
    · obtain ⟨ad, e⟩ := h.isSome_ (by rw [hl]; exact Nat.mul_pos h0 hz); cases e
  | some ad => exact .inr ⟨ad, rfl, fun j u hu => h.at_ hu⟩
end
/-! rows of whole numbers -/
def ci (k : IntKind) (xs : List Int) : List Value := xs.map (Value.int k)
theorem ci_len (k : IntKind) (xs : List Int) : (ci k xs).length = xs.length := by simp [ci]
theorem ci_one {k : IntKind} {xs : List Int} : ∀ u ∈ ci k xs, u.oneCell' = true := by
  intro u hu; simp only [ci, List.mem_map] at hu; obtain ⟨x, _, rfl⟩ := hu; rfl
def rdI (xs : List Int) (i : Int) : Int := xs.getD i.toNat 0
theorem ci_rd {k : IntKind} {xs : List Int} {i : Int} (h0 : 0 ≤ i) (h1 : i < xs.length) : (ci k xs)[i.toNat]? = some (.int k (rdI xs i)) := by
  have h : i.toNat < xs.length := by omega
  simp [ci, rdI, h]
theorem ci_set (k : IntKind) (xs : List Int) (j : Nat) (v : Int) : splice (ci k xs) j [.int k v] = ci k (xs.set j v) := by simp [splice, ci]
theorem ci_app (k : IntKind) (xs ys : List Int) : ci k (xs ++ ys) = ci k xs ++ ci k ys := by simp [ci]
theorem ci_rep (k : IntKind) (n : Nat) (x : Int) : ci k (List.replicate n x) = (List.replicate n [Value.int k x]).flatten := by
  induction n with
  | zero => rfl
  | succ n ih => rw [List.replicate_succ, List.replicate_succ, List.flatten_cons, ← ih]; rfl
/-! rows of structs -/
def cf {α : Type} (f : α → List Value) (xs : List α) : List Value := xs.flatMap f
theorem cf_len {α : Type} {f : α → List Value} {z : Nat} (hf : ∀ x, (f x).length = z) (xs : List α) : (cf f xs).length = xs.length * z := by
  induction xs with
  | nil => simp [cf]
  | cons x xs ih => simp only [cf, List.flatMap_cons, List.length_append, hf, List.length_cons]; have : (List.flatMap f xs).length = xs.length * z := ih; rw [this, Nat.add_mul]; omega
theorem cf_rd {α : Type} {f : α → List Value} {z : Nat} (hf : ∀ x, (f x).length = z) : ∀ (xs : List α) (i k : Nat) (x : α), xs[i]? = some x → k < z → (cf f xs)[i * z + k]? = (f x)[k]?
  | [], i, k, x, h, _ => by simp at h
  | y :: xs, 0, k, x, h, hk => by
    simp only [List.getElem?_cons_zero, Option.some.injEq] at h
    subst h
    show (f y ++ xs.flatMap f)[0 * z + k]? = _
    rw [Nat.zero_mul, Nat.zero_add, List.getElem?_append_left (by rw [hf]; exact hk)]
  | y :: xs, i + 1, k, x, h, hk => by
    simp only [List.getElem?_cons_succ] at h
    show (f y ++ xs.flatMap f)[(i + 1) * z + k]? = _
    rw [List.getElem?_append_right (by rw [hf, Nat.add_mul]; omega), hf, show (i + 1) * z + k - z = i * z + k by rw [Nat.add_mul]; omega]
    exact cf_rd hf xs i k x h hk
/-- What is owned, in another order. -/
theorem perm_ {L L' : List Ent} (is : List Nat) (hp : is.isPerm (List.range L.length) = true) (h : is.filterMap (L[·]?) = L') : L.Perm L' := by
  have h1 := (List.isPerm_iff.1 hp).filterMap (L[·]?)
  rw [h] at h1
  have h2 : (List.range L.length).filterMap (L[·]?) = L := by
    clear h1 h hp
    induction L with
    | nil => rfl
    | cons a L ih => rw [List.length_cons, List.range_succ_eq_map, List.filterMap_cons]; simp only [List.getElem?_cons_zero, List.filterMap_map]; congr 1
  rw [h2] at h1
  exact h1.symm
theorem add_add (a : Addr) (m k : Nat) : (a.add m).add k = a.add (m + k) := by
  unfold Addr.add
  by_cases hm : m = 0 <;> by_cases hk : k = 0 <;> simp [hm, hk, Nat.add_assoc]
section
variable {P : Program} {a : Act} {W W' W0 : World} {M : Nat → Prop} {L : List Ent} {d : Nat} {ty : TypeId} {ps : String} {af : Array Edge} {gd : Option (Nat × Bool)} {dst : Option Nat}
theorem R_indexA1 {t : TypeId} {x y : Operand} {p : Addr} {n c e : Nat} {k : IntKind} {i : Int} (hx : a.eval x = .slice (some p) n c) (hy : a.eval y = .int k i) (ht : P.underlying t = some (.slice e)) (hz : (P.info? e).map (·.size) = some 1) (h0 : 0 ≤ i) (h1 : i < n) :
    (execOp a.eval ⟨dst, .indexAddr t x y, ty, ps, af, gd⟩).run P W = .ok (.value (.pointer (some (p.add i.toNat)))) W := by
  rw [R_indexA hx hy ht hz h0 h1, Nat.mul_one]
/-- An element of a row of structs that is read. -/
theorem Rd.elem {α : Type} {f : α → List Value} {z : Nat} (hf : ∀ x, (f x).length = z) {ad : Addr} {xs : List α} (h : Rd W (some ad) (cf f xs)) {i : Nat} {x : α} (hx : xs[i]? = some x) : ∀ j v, (f x)[j]? = some v → W.cell? ((ad.add (i * z)).add j) = some v := by
  intro j v hv
  have hj : j < z := by rw [← hf x]; exact (List.getElem?_eq_some_iff.1 hv).1
  rw [add_add]
  exact h.at_ ((cf_rd hf xs i j x hx hj).trans hv)
theorem Rd.elem1 {α : Type} {f : α → List Value} {z : Nat} (hf : ∀ x, (f x).length = z) {ad : Addr} {xs : List α} (h : Rd W (some ad) (cf f xs)) {i k : Nat} {x : α} {v : Value} (hx : xs[i]? = some x) (hv : (f x)[k]? = some v) : W.cell? ((ad.add (i * z)).add k) = some v := Rd.elem hf h hx k v hv
/-- An element of one's own row of structs. -/
theorem St.elem (HS : St W0 M W L) {α : Type} {f : α → List Value} {z : Nat} (hf : ∀ x, (f x).length = z) {i g n c t : Nat} {xs : List α} (hi : L[i]? = some (row (some ⟨g, 0, none⟩) n c (cf f xs) t z)) {j : Nat} {x : α} (hx : xs[j]? = some x) : ∀ k v, (f x)[k]? = some v → W.cell? ((⟨g, j * z, none⟩ : Addr).add k) = some v := by
  intro k v hv
  have hk : k < z := by rw [← hf x]; exact (List.getElem?_eq_some_iff.1 hv).1
  rw [Addr.add_lit]
  exact HS.rcell hi ((cf_rd hf xs j k x hx hk).trans hv)
theorem St.elem1 (HS : St W0 M W L) {α : Type} {f : α → List Value} {z : Nat} (hf : ∀ x, (f x).length = z) {i g n c t : Nat} {xs : List α} (hi : L[i]? = some (row (some ⟨g, 0, none⟩) n c (cf f xs) t z)) {j k : Nat} {x : α} {v : Value} (hx : xs[j]? = some x) (hv : (f x)[k]? = some v) : W.cell? ⟨g, j * z + k, none⟩ = some v := by
  have := HS.elem hf hi hx k v hv
  rwa [Addr.add_lit] at this
end
def gx {α : Type} [Inhabited α] (xs : List α) (i : Int) : α := xs.getD i.toNat default
theorem gx_eq {α : Type} [Inhabited α] {xs : List α} {i : Int} (h0 : 0 ≤ i) (h1 : i < xs.length) : xs[i.toNat]? = some (gx xs i) := by
  have h : i.toNat < xs.length := by omega
  simp [gx, h]
theorem rdI_eq {xs : List Int} {i : Int} (h0 : 0 ≤ i) (h1 : i < xs.length) : xs[i.toNat]? = some (rdI xs i) := by
  have h : i.toNat < xs.length := by omega
  simp [rdI, h]
/-! results that lie in memory -/
section
variable {P : Program} {W W0 : World} {M : Nat → Prop} {L : List Ent} {tmps : Array Value} {fn : Func}
def oneRes (tmps : Array Value) : ResultVar → Sem Value
  | .tmp t => pure (tmps.getD t undef)
  | .cell a t => do loadVar t (← asAddr (tmps.getD a undef))
theorem results_eq : results fn tmps = (do let vs ← fn.results.mapM (oneRes tmps); pure (if h : vs.size = 1 then vs[0] else .tuple vs)) := by
  unfold results oneRes; rfl
theorem res1 {r1 : ResultVar} {v1 : Value} (h : fn.results = #[r1]) (h1 : (oneRes tmps r1).run P W = .ok v1 W) : (results fn tmps).run P W = .ok v1 W := by
  simp [results_eq, h, h1]
theorem res2 {r1 r2 : ResultVar} {v1 v2 : Value} (h : fn.results = #[r1, r2]) (h1 : (oneRes tmps r1).run P W = .ok v1 W) (h2 : (oneRes tmps r2).run P W = .ok v2 W) : (results fn tmps).run P W = .ok (.tuple #[v1, v2]) W := by
  simp [results_eq, h, h1, h2]
theorem res3 {r1 r2 r3 : ResultVar} {v1 v2 v3 : Value} (h : fn.results = #[r1, r2, r3]) (h1 : (oneRes tmps r1).run P W = .ok v1 W) (h2 : (oneRes tmps r2).run P W = .ok v2 W) (h3 : (oneRes tmps r3).run P W = .ok v3 W) : (results fn tmps).run P W = .ok (.tuple #[v1, v2, v3]) W := by
  simp [results_eq, h, h1, h2, h3]
theorem oneRes_t {t : Nat} {v : Value} (h : tmps.getD t undef = v) : (oneRes tmps (.tmp t)).run P W = .ok v W := by
  simp only [oneRes, h]; rfl
theorem oneRes_agg {a : Nat} {t : TypeId} {p : Addr} (cs : List Value) (hp : tmps.getD a undef = .pointer (some p)) (hu : aggB P t = true) (hs : someB P t = true) (hn : (P.info? t).map (·.size) = some cs.length) (hc : ∀ j v, cs[j]? = some v → W.cell? (p.add j) = some v) : (oneRes tmps (.cell a t)).run P W = .ok (.agg cs.toArray) W := by
  simp only [oneRes, hp]
  simp [asAddr, loadVar, run_isAgg hu hs, run_sizeOf hn, run_loadCells_list W p cs hc]
/-- A whole block, read. -/
theorem St.cellsN (HS : St W0 M W L) {i g t : Nat} {cs : List Value} (hi : L[i]? = some (blk g cs t)) : ∀ j v, cs[j]? = some v → W.cell? ((⟨g, 0, none⟩ : Addr).add j) = some v := fun j v hv => by
  rw [Addr.add_lit, Nat.zero_add]; exact HS.cell hi hv
theorem Src.of_rd' {A : Option Addr} {n c z : Nat} {cs : List Value} (h : Rd W A cs) (hl : cs.length = n * z) (hz : 0 < z) (h1 : ∀ u ∈ cs, u.oneCell' = true) : Src W (.slice A n c) n z cs :=
  Src.of_rd h hl hz (fun _ => by cases A; exact .inl rfl; exact .inr ⟨_, rfl⟩) h1
end
section
variable {P : Program} {ops : Array Oper} {Q : Exit → Act → World → Prop} {rest : List Oper} {D : Option Nat} {l : List Value} {W W0 : World} {M : Nat → Prop} {L : List Ent} {d : Nat} {ty : TypeId} {ps : String} {af : Array Edge} {gd : Option (Nat × Bool)}
/-- append, what comes of it told in words of one's own. -/
theorem ka1 {t e : TypeId} {s x : Operand} (HS : St W0 M W L) (i : Nat) {n c z m : Nat} {A : Option Addr} {cs news : List Value} {xv : Value} (hi : L[i]? = some (row A n c cs e z)) (hsrc : Src W xv m z news) (zs : List Value) (by_ n' : Nat) (cs' : List Value) (hn : n + m = n') (hcs : cs ++ news = cs')
    (hw : Region.wanted ⟨some d, .call { callee := .builtin .append, args := #[s, x], argTypes := #[t, t] }, ty, ps, af, gd⟩ (yielded ops (FrG D l).tmps) = true)
    (hs : (FrG D l).eval s = .slice A n c) (hx : (FrG D l).eval x = xv)
    (ht : P.underlying t = some (.slice e)) (hz : ((P.info? e).bind (·.zero)).map (·.cells) = some zs.toArray) (hzl : zs.length = z) (hsz : (P.info? e).map (·.size) = some z) (hb : (P.info? e).map (·.bytes) = some by_) (h0 : 0 < z) (h63 : n' ≤ 140737488355327) (hbytes : n' * by_ ≤ 140737488355328)
    (h : ∀ A' c' W', St W0 M W' (L.set i (row A' n' c' cs' e z)) → wpList P ops Q rest (FrG D (l.set d (.slice A' n' c'))) W') :
    wpList P ops Q (⟨some d, .call { callee := .builtin .append, args := #[s, x], argTypes := #[t, t] }, ty, ps, af, gd⟩ :: rest) (FrG D l) W := by
  subst hn; subst hcs
  exact ka HS i hi hsrc zs by_ hw hs hx ht hz hzl hsz hb h0 h63 hbytes h
end
attribute [irreducible] rdI gx ci cf
/-! ### drawn regions with what makes memory among what reads -/
section
variable {P : Program} {ops : Array Oper} {Q : Exit → Act → World → Prop} {D : Option Nat} {l : List Value} {N : Nat → Prop} {V W W' W0 : World} {M : Nat → Prop} {L : List Ent} {op : Op} {d : Nat} {ty : TypeId} {ps : String} {af : Array Edge} {gd : Option (Nat × Bool)} {dst : Option Nat} {n : Nat} {ls : Array Bool}
def TA (P : Program) (ops : Array Oper) (Q : Exit → Act → World → Prop) (N : Nat → Prop) (V : World) (n : Nat) (ls : Array Bool) (a : Act) (w : World) : Prop := wpAnyH P .any ops Q (fun w' => Kpt N V w') n ls a w
theorem Kpt.cell (h : Kpt (fun _ => False) V W) {p : Addr} {v : Value} (hc : V.cell? p = some v) : W.cell? p = some v :=
  (World.cell?_of_block (h.block p.block (World.block_lt_of_cell? V p hc) (fun f => f))).trans hc
theorem Kpt.cells (h : Kpt (fun _ => False) V W) {p : Addr} {cs : List Value} (hc : ∀ j v, cs[j]? = some v → V.cell? (p.add j) = some v) : ∀ j v, cs[j]? = some v → W.cell? (p.add j) = some v := fun j v hv => h.cell (hc j v hv)
theorem Kpt.tr (h : Kpt N V W) (k : Kpt (fun _ => False) W W') : Kpt N V W' := h.trans k (fun _ f => f.elim)
theorem Kpt.trN (h : Kpt N V W) (k : Kpt N W W') : Kpt N V W' := h.trans k (fun _ f => .inl f)
theorem Kpt.cellN (h : Kpt N V W) {p : Addr} {v : Value} (hn : ¬ N p.block) (hc : V.cell? p = some v) : W.cell? p = some v :=
  (World.cell?_of_block (h.block p.block (World.block_lt_of_cell? V p hc) hn)).trans hc
/-- What was there ahead of all is no entry's. -/
theorem St.oldK (HS : St W0 (owns []) V L) {i : Nat} {e : Ent} (hi : L[i]? = some e) (hk : Kpt e.own V W) {p : Addr} {v : Value} (hc : W0.cell? p = some v) : W.cell? p = some v :=
  hk.cellN (fun ho => by
    have h1 := ((HS.has e (List.mem_of_getElem? hi)).2 _ ho).2
    have h2 := World.block_lt_of_cell? W0 p hc
    exact h1.elim (owns_nil _) (fun h3 => by omega)) (HS.old0 hc)
theorem St.sepB (HS : St W0 M V L) {a b g t : Nat} {cs : List Value} {e : Ent} (hab : a ≠ b) (ha : L[a]? = some (blk g cs t)) (hb : L[b]? = some e) : ¬ e.own g := by
  have hne := List.pairwise_iff_getElem.1 HS.ne
  obtain ⟨h1, e1⟩ := List.getElem?_eq_some_iff.1 ha
  obtain ⟨h2, e2⟩ := List.getElem?_eq_some_iff.1 hb
  intro ho
  rcases Nat.lt_or_gt_of_ne hab with h | h
  · exact hne a b h1 h2 h g (by rw [e1]; rfl) (by rw [e2]; exact ho)
  · exact hne b a h2 h1 h g (by rw [e2]; exact ho) (by rw [e1]; rfl)
theorem St.sepR (HS : St W0 M V L) {a b g n c t z : Nat} {cs : List Value} {e : Ent} (hab : a ≠ b) (ha : L[a]? = some (row (some ⟨g, 0, none⟩) n c cs t z)) (hb : L[b]? = some e) : ¬ e.own g := by
  have hne := List.pairwise_iff_getElem.1 HS.ne
  obtain ⟨h1, e1⟩ := List.getElem?_eq_some_iff.1 ha
  obtain ⟨h2, e2⟩ := List.getElem?_eq_some_iff.1 hb
  intro ho
  rcases Nat.lt_or_gt_of_ne hab with h | h
  · exact hne a b h1 h2 h g (by rw [e1]; rfl) (by rw [e2]; exact ho)
  · exact hne b a h2 h1 h g (by rw [e2]; exact ho) (by rw [e1]; rfl)
theorem t_start {id : Nat} {ol : List Oper} (HS : St W0 M W L) (N : Nat → Prop) (n : Nat) (hm : P.follows .mixedOrders = true) (hn : ol.toArray.size = n)
    (h : ∀ V, St W0 M V L → Kpt (fun _ => False) W V → TA P ol.toArray Q N V n (Array.replicate n false) (FrG D l) V) : (Code.region id ol.toArray true).wp P Q (FrG D l) W := by
  subst hn
  exact wp_region_held hm (h _ (HS.drew _) (.drew _ _))
theorem t_q (i : Nat) (v : Value) (hi : ops[i]? = some ⟨some d, op, ty, ps, af, gd⟩) (hc : (Region.noSelect ops && Region.free .any ops ls i && (Region.ready .any ops ls).contains i) = true)
    (hw : Region.wanted ⟨some d, op, ty, ps, af, gd⟩ (yielded ops (FrG D l).tmps) = true) (hQ : ∀ c a w, Q (.panic c) (a.put (some d) v) w → Q (.panic c) a w)
    (hr : ∀ w', Kpt N V w' → (execOp (FrG D l).eval ⟨some d, op, ty, ps, af, gd⟩).run P w' = .ok (.value v) w') (hk : Kpt N V W)
    (h : TA P ops Q N V n (ls.setIfInBounds i true) (FrG D (l.set d v)) W) : TA P ops Q N V (n + 1) ls (FrG D l) W := by
  simp only [Bool.and_eq_true] at hc
  refine wpAnyH_take hi hc.1.1 hc.1.2 hc.2 hQ (.inl ⟨hw, fun w' hk' => hr w' hk'⟩) hk ?_
  show wpAnyH _ _ _ _ _ _ _ ((FrG D l).put (some d) v) _
  rw [Fr_put]; exact h
theorem t_one (i : Nat) (hr : Region.ready .any ops ls = [i]) (h : wpOp P ops Q i (fun a' w' => Kpt N V w' ∧ TA P ops Q N V n (ls.setIfInBounds i true) a' w') (FrG D l) W) : TA P ops Q N V (n + 1) ls (FrG D l) W :=
  wpAnyH_all hr (by simp) (fun j hj => by rw [List.mem_singleton] at hj; subst hj; exact h)
/-- What is alone: it gives a value. -/
theorem t_e (i : Nat) (v : Value) (hi : ops[i]? = some ⟨some d, op, ty, ps, af, gd⟩) (hr : Region.ready .any ops ls = [i]) (hw : Region.wanted ⟨some d, op, ty, ps, af, gd⟩ (yielded ops (FrG D l).tmps) = true)
    (hrun : (execOp (FrG D l).eval ⟨some d, op, ty, ps, af, gd⟩).run P W = .ok (.value v) W') (hk : Kpt N V W') (h : TA P ops Q N V n (ls.setIfInBounds i true) (FrG D (l.set d v)) W') : TA P ops Q N V (n + 1) ls (FrG D l) W := by
  refine t_one i hr ?_
  unfold wpOp; rw [hi]; simp only; rw [if_pos hw]
  left; unfold Oper.wp; rw [hrun]
  exact ⟨hk, (Fr_put l d v) ▸ h⟩
theorem t_c (i : Nat) {f : FuncId} {args : Array Value} (hi : ops[i]? = some ⟨some d, op, ty, ps, af, gd⟩) (hr : Region.ready .any ops ls = [i]) (hw : Region.wanted ⟨some d, op, ty, ps, af, gd⟩ (yielded ops (FrG D l).tmps) = true)
    (hrun : (execOp (FrG D l).eval ⟨some d, op, ty, ps, af, gd⟩).run P W = .ok (.enter f args) W) (h : Calls P f args W fun e w' => ∃ v, e = .returned v ∧ Kpt N V w' ∧ TA P ops Q N V n (ls.setIfInBounds i true) (FrG D (l.set d v)) w') : TA P ops Q N V (n + 1) ls (FrG D l) W := by
  refine t_one i hr ?_
  unfold wpOp; rw [hi]; simp only; rw [if_pos hw]
  left; unfold Oper.wp; rw [hrun]
  refine h.mono ?_
  rintro e w' ⟨v, rfl, hk, hv⟩
  exact ⟨hk, (Fr_put l d v) ▸ hv⟩
/-- One of two that may come up. -/
theorem t_pick2 (i j : Nat) (hr : Region.ready .any ops ls = [i, j]) (hi : wpOp P ops Q i (fun a' w' => Kpt N V w' ∧ TA P ops Q N V n (ls.setIfInBounds i true) a' w') (FrG D l) W) (hj : wpOp P ops Q j (fun a' w' => Kpt N V w' ∧ TA P ops Q N V n (ls.setIfInBounds j true) a' w') (FrG D l) W) : TA P ops Q N V (n + 1) ls (FrG D l) W :=
  wpAnyH_all hr (by simp) (fun k hk => by
    rcases List.mem_cons.1 hk with rfl | hk
    · exact hi
    · rw [List.mem_singleton] at hk; subst hk; exact hj)
theorem t_e2 (i : Nat) (v : Value) (hi : ops[i]? = some ⟨some d, op, ty, ps, af, gd⟩) (hw : Region.wanted ⟨some d, op, ty, ps, af, gd⟩ (yielded ops (FrG D l).tmps) = true)
    (hrun : (execOp (FrG D l).eval ⟨some d, op, ty, ps, af, gd⟩).run P W = .ok (.value v) W') (hk : Kpt N V W') (h : TA P ops Q N V n (ls.setIfInBounds i true) (FrG D (l.set d v)) W') : wpOp P ops Q i (fun a' w' => Kpt N V w' ∧ TA P ops Q N V n (ls.setIfInBounds i true) a' w') (FrG D l) W := by
  unfold wpOp; rw [hi]; simp only; rw [if_pos hw]
  left; unfold Oper.wp; rw [hrun]
  exact ⟨hk, (Fr_put l d v) ▸ h⟩
/-- A store. -/
theorem t_s (i : Nat) (hi : ops[i]? = some ⟨none, op, ty, ps, af, gd⟩) (hr : Region.ready .any ops ls = [i]) (hw : Region.wanted ⟨none, op, ty, ps, af, gd⟩ (yielded ops (FrG D l).tmps) = true)
    (hrun : (execOp (FrG D l).eval ⟨none, op, ty, ps, af, gd⟩).run P W = .ok .skip W') (hk : Kpt N V W') (h : TA P ops Q N V n (ls.setIfInBounds i true) (FrG D l) W') : TA P ops Q N V (n + 1) ls (FrG D l) W := by
  refine t_one i hr ?_
  unfold wpOp; rw [hi]; simp only; rw [if_pos hw]
  left; unfold Oper.wp; rw [hrun]
  exact ⟨hk, h⟩
theorem ex_ks {t : TypeId} {x y : Operand} {v : Value} (HS : St W0 M W L) (i : Nat) {g tb : Nat} {cs : List Value} (hi : L[i]? = some (blk g cs tb)) (j : Nat) (news : List Value)
    (hx : (FrG D l).eval x = .pointer (some ⟨g, j, none⟩)) (hy : (FrG D l).eval y = v) (hv : v.cells = news.toArray) (hn : (P.info? t).map (·.size) = some news.length) (h1 : ∀ u ∈ news, u.oneCell' = true) (hfit : j + news.length ≤ cs.length) :
    ∃ W', (execOp (FrG D l).eval ⟨none, .store t x y, ty, ps, af, gd⟩).run P W = .ok .skip W' ∧ St W0 M W' (L.set i (blk g (splice cs j news) tb)) ∧ Kpt (fun k => k = g) W W' :=
  ⟨_, R_store news (HS.blkE hi) hx hy hv hn h1 hfit, HS.setBlk hi, .setRow _ _ _ rfl⟩
theorem blk_own {g t k : Nat} {cs : List Value} (h : k = g) : (blk g cs t).own k := h
theorem t_done (hr : Region.ready .any ops ls = []) (h : Q .normal (FrG D l) W) : TA P ops Q N V n ls (FrG D l) W := wpAnyH_done hr h n
theorem ex_blk (HS : St W0 M W L) (cs : List Value) (t : Nat) : ∃ g W', g = W.heap.size ∧ W' = W.alloc (.cells cs.toArray t) ∧ St W0 M W' (blk g cs t :: L) ∧ Kpt (fun _ => False) W W' := ⟨_, _, rfl, rfl, HS.newBlk cs t, .alloc _ _⟩
theorem ex_lit (HS : St W0 M W L) (n : Nat) (cs : List Value) (t z : Nat) (h1 : cs.length = n * z) (h2 : n ≤ 140737488355327) : ∃ g W', g = W.heap.size ∧ W' = W.alloc (.cells cs.toArray t) ∧ St W0 M W' (row (some ⟨g, 0, none⟩) n n cs t z :: L) ∧ Kpt (fun _ => False) W W' :=
  ⟨_, _, rfl, rfl, HS.newRow n n cs cs t z h1 h1 (Nat.le_refl _) (by unfold maxLen; omega) (List.take_of_length_le (by omega)), .alloc _ _⟩
end
theorem Kpt.nil {a b : World} (h : Kpt (owns []) a b) : Kpt (fun _ => False) a b := ⟨h.os, h.tape, h.output, h.size, fun k hk _ => h.block k hk (owns_nil k)⟩
section
variable {P : Program} {D : Option Nat} {l : List Value} {W W0 : World} {M : Nat → Prop} {L : List Ent} {ty : TypeId} {ps : String} {af : Array Edge} {gd : Option (Nat × Bool)} {dst : Option Nat}
theorem ex_append {t e : TypeId} {s x : Operand} (HS : St W0 M W L) (i : Nat) {n c z m : Nat} {A : Option Addr} {cs news : List Value} {xv : Value} (hi : L[i]? = some (row A n c cs e z)) (hsrc : Src W xv m z news) (zs : List Value) (by_ n' : Nat) (cs' : List Value) (hn : n + m = n') (hcs : cs ++ news = cs')
    (hs : (FrG D l).eval s = .slice A n c) (hx : (FrG D l).eval x = xv)
    (ht : P.underlying t = some (.slice e)) (hz : ((P.info? e).bind (·.zero)).map (·.cells) = some zs.toArray) (hzl : zs.length = z) (hsz : (P.info? e).map (·.size) = some z) (hb : (P.info? e).map (·.bytes) = some by_) (h0 : 0 < z) (h63 : n' ≤ 140737488355327) (hbytes : n' * by_ ≤ 140737488355328) :
    ∃ A' c' W', (execOp (FrG D l).eval ⟨dst, .call { callee := .builtin .append, args := #[s, x], argTypes := #[t, t] }, ty, ps, af, gd⟩).run P W = .ok (.value (.slice A' n' c')) W' ∧ St W0 M W' (L.set i (row A' n' c' cs' e z)) ∧ Kpt (row A n c cs e z).own W W' := by
  subst hn; subst hcs
  obtain ⟨A', c', W', hrun, HS', hk⟩ := append_own (ty' := ty) HS hi zs by_ hsrc ht hz hzl hsz hb h0 h63 hbytes
  exact ⟨A', c', W', R_append hs hx hrun, HS', hk⟩
end
theorem wp_seq_cut {P : Program} {Q : Exit → Act → World → Prop} {x y : Code} {a : Act} {w : World} (I : Act → World → Prop) (h1 : x.wp P (Exit.then I Q) a w) (h2 : ∀ a' w', I a' w' → y.wp P Q a' w') : (Code.seq x y).wp P Q a w :=
  wp_seq (Code.wp_mono (fun e a' w' h => by
    cases e with
    | normal => exact h2 a' w' h
    | exit id => exact h
    | goto l => exact h
    | ret => exact h
    | panic ch => exact h
    | outgrown => exact h) h1)

/-! ### maps of whole numbers -/
/-! ### pieces of rows, copies, remainders -/
theorem add_add_ (a : Addr) (m n : Nat) : (a.add m).add n = a.add (m + n) := by
  unfold Addr.add
  by_cases h : m = 0 <;> by_cases h2 : n = 0 <;> simp_all [Nat.add_assoc]
section
variable {P : Program} {ops : Array Oper} {Q : Exit → Act → World → Prop} {R : Act → Prop} {rest : List Oper} {a : Act} {D : Option Nat} {l : List Value} {W W' W0 : World} {M : Nat → Prop} {L : List Ent} {v : Value} {op : Op} {d : Nat} {ty : TypeId} {ps : String} {af : Array Edge} {gd : Option (Nat × Bool)} {dst : Option Nat}
theorem Src.head {A : Option Addr} {n c m : Nat} {cs : List Value} (h : Src W (.slice A n c) n 1 cs) (hm : m ≤ n) : Src W (.slice A m c) m 1 (cs.take m) := by
  have hl := h.len
  refine ⟨?_, by rw [List.length_take]; omega, fun u hu => h.one u (List.mem_of_mem_take hu)⟩
  obtain ⟨B, c', e, hB⟩ := h.val
  cases e
  refine ⟨_, _, rfl, ?_⟩
  rcases hB with ⟨e, h0⟩ | ⟨ad, e, hc⟩
  · exact .inl ⟨e, by omega⟩
  · refine .inr ⟨ad, e, fun j u hu => hc j u ?_⟩
    by_cases hj : j < m
    · rwa [List.getElem?_take_of_lt hj] at hu
    · rw [List.getElem?_eq_none (by rw [List.length_take]; omega)] at hu; cases hu
theorem Src.tail {A : Option Addr} {n c m : Nat} {cs : List Value} (h : Src W (.slice A n c) n 1 cs) (hm : m ≤ n) (hc : n ≤ c) : Src W (.slice (cutA A c m 1) (n - m) (c - m)) (n - m) 1 (cs.drop m) := by
  have hl := h.len
  refine ⟨?_, by rw [List.length_drop]; omega, fun u hu => h.one u (List.mem_of_mem_drop hu)⟩
  obtain ⟨B, c', e, hB⟩ := h.val
  cases e
  refine ⟨_, _, rfl, ?_⟩
  rcases hB with ⟨e, h0⟩ | ⟨ad, e, hc2⟩
  · exact .inl ⟨by unfold cutA; rw [e]; split <;> rfl, by omega⟩
  · subst e
    unfold cutA
    by_cases hcm : c = m
    · rw [if_pos hcm]
      refine .inr ⟨ad, rfl, fun j u hu => ?_⟩
      rw [List.getElem?_eq_none (by rw [List.length_drop]; omega)] at hu; cases hu
    · rw [if_neg hcm]
      refine .inr ⟨_, rfl, fun j u hu => ?_⟩
      rw [List.getElem?_drop] at hu
      rw [Nat.mul_one, add_add_]
      exact hc2 _ u hu
end

/-! ### a ring of whole numbers -/
def ring (bs : List Int) (f n : Nat) : List Int := (List.range n).map fun i => bs.getD ((f + i) % bs.length) 0
structure RQ (bs : List Int) (f n : Nat) (xs : List Int) : Prop where
  hn : n ≤ bs.length
  hf : 0 < bs.length → f < bs.length
  h0 : bs.length = 0 → f = 0
  hb : bs.length ≤ 4398046511104
  hx : xs = ring bs f n
theorem RQ.len {bs xs : List Int} {f n : Nat} (h : RQ bs f n xs) : xs.length = n := by rw [h.hx]; unfold ring; simp
theorem RQ.nil : RQ [] 0 0 [] := ⟨Nat.le_refl _, fun h => by simp at h, fun _ => rfl, by simp, rfl⟩
theorem take_rd {xs : List Int} {i : Int} (h0 : 0 ≤ i) (h1 : i < xs.length) : xs.take (i + 1).toNat = xs.take i.toNat ++ [rdI xs i] := by
  have h : i.toNat < xs.length := by omega
  rw [show (i + 1).toNat = i.toNat + 1 by omega, List.take_succ_eq_append_getElem h]
  unfold rdI
  rw [List.getD_eq_getElem?_getD, List.getElem?_eq_getElem h]
  rfl
section
variable {P : Program} {a : Act} {W : World} {dst : Option Nat} {ty : TypeId} {ps : String} {af : Array Edge} {gd : Option (Nat × Bool)}
theorem R_max {x y : Operand} {k : IntKind} {i j : Int} {ts : Array TypeId} (hx : a.eval x = .int k i) (hy : a.eval y = .int k j) :
    (execOp a.eval ⟨dst, .call { callee := .builtin .max, args := #[x, y], argTypes := ts }, ty, ps, af, gd⟩).run P W = .ok (.value (.int k (max i j))) W := by
  have e : (if i < j then j else i) = max i j := by split <;> omega
  simp [execOp, resolve, invoke, builtin, hx, hy, Builtin.max_, Builtin.max2, e]
end

/-! ### how many bits of 64 are set, by bytes -/
def bval : List Nat → Nat
  | [] => 0
  | b :: bs => b + 256 * bval bs
theorem and_cons256 {b c y d : Nat} (hb : b < 256) (hc : c < 256) : (b + 256 * y) &&& (c + 256 * d) = (b &&& c) + 256 * (y &&& d) := by
  have hbc : b &&& c < 2 ^ 8 := Nat.and_lt_two_pow b hc
  apply Nat.eq_of_testBit_eq
  intro i
  have e1 : b + 256 * y = 2 ^ 8 * y + b := by omega
  have e2 : c + 256 * d = 2 ^ 8 * d + c := by omega
  have e3 : (b &&& c) + 256 * (y &&& d) = 2 ^ 8 * (y &&& d) + (b &&& c) := by omega
  rw [Nat.testBit_and, e1, e2, e3, Nat.testBit_two_pow_mul_add _ hb, Nat.testBit_two_pow_mul_add _ hc, Nat.testBit_two_pow_mul_add _ hbc]
  split
  · rw [Nat.testBit_and]
  · rw [Nat.testBit_and]
theorem bval_and {bs : List Nat} {c : Nat} (hc : c < 256) (h : ∀ b ∈ bs, b < 256) : bval bs &&& bval (List.replicate bs.length c) = bval (bs.map (· &&& c)) := by
  induction bs with
  | nil => simp [bval]
  | cons b bs ih =>
    simp only [List.length_cons, List.replicate_succ, bval, List.map_cons]
    rw [and_cons256 (h b (by simp)) hc, ih (fun x hx => h x (by simp [hx]))]
theorem bval_shr {k c : Nat} {bs : List Nat} (hc : c < 256) (hk : k ≤ 8) (hm : ∀ b r : Nat, b < 256 → r < 2 ^ k → (b >>> k + 2 ^ (8 - k) * r) &&& c = b >>> k &&& c) (h : ∀ b ∈ bs, b < 256) : bval bs >>> k &&& bval (List.replicate bs.length c) = bval (bs.map fun b => b >>> k &&& c) := by
  induction bs with
  | nil => simp [bval]
  | cons b bs ih =>
    simp only [List.length_cons, List.replicate_succ, bval, List.map_cons]
    have hb := h b (by simp)
    have h2 : 2 ^ k * 2 ^ (8 - k) = 256 := by rw [← Nat.pow_add, show k + (8 - k) = 8 by omega]
    have hpos : 0 < 2 ^ k := Nat.two_pow_pos k
    have e : (b + 256 * bval bs) >>> k = (b >>> k + 2 ^ (8 - k) * (bval bs % 2 ^ k)) + 256 * (bval bs >>> k) := by
      simp only [Nat.shiftRight_eq_div_pow]
      have e1 : b + 256 * bval bs = b + 2 ^ k * (2 ^ (8 - k) * bval bs) := by rw [← Nat.mul_assoc, h2]
      rw [e1, Nat.add_mul_div_left _ _ hpos]
      have e2 : bval bs = 2 ^ k * (bval bs / 2 ^ k) + bval bs % 2 ^ k := (Nat.div_add_mod _ _).symm
      have e3 : 2 ^ (8 - k) * bval bs = 256 * (bval bs / 2 ^ k) + 2 ^ (8 - k) * (bval bs % 2 ^ k) := by
        conv => lhs; rw [e2, Nat.mul_add, ← Nat.mul_assoc, Nat.mul_comm (2 ^ (8 - k)), h2]
      rw [e3]; omega
    have hlt : b >>> k + 2 ^ (8 - k) * (bval bs % 2 ^ k) < 256 := by
      have h3 : b >>> k < 2 ^ (8 - k) := by
        rw [Nat.shiftRight_eq_div_pow]
        exact (Nat.div_lt_iff_lt_mul hpos).2 (by rw [Nat.mul_comm, h2]; exact hb)
      have h4 : bval bs % 2 ^ k + 1 ≤ 2 ^ k := Nat.mod_lt _ hpos
      have h5 : 2 ^ (8 - k) * (bval bs % 2 ^ k + 1) ≤ 2 ^ (8 - k) * 2 ^ k := Nat.mul_le_mul_left _ h4
      rw [Nat.mul_comm (2 ^ (8 - k)) (2 ^ k), h2, Nat.mul_add, Nat.mul_one] at h5
      omega
    rw [e, and_cons256 hlt hc, hm b _ hb (Nat.mod_lt _ hpos), ih (fun x hx => h x (by simp [hx]))]
theorem bval_add {f g : Nat → Nat} (bs : List Nat) : bval (bs.map f) + bval (bs.map g) = bval (bs.map fun b => f b + g b) := by
  induction bs with
  | nil => rfl
  | cons b bs ih => simp only [List.map_cons, bval]; rw [← ih]; omega
theorem bval_nib {bs : List Nat} (h : ∀ b ∈ bs, b % 16 ≤ 4 ∧ b / 16 ≤ 4) : (bval bs >>> 4 + bval bs) &&& bval (List.replicate bs.length 15) = bval (bs.map fun b => (b >>> 4 + b) &&& 15) := by
  induction bs with
  | nil => rfl
  | cons b bs ih =>
    simp only [List.length_cons, List.replicate_succ, bval, List.map_cons]
    have hb := h b (by simp)
    have hr : bval bs % 16 ≤ 4 := by
      cases bs with
      | nil => simp [bval]
      | cons c cs => have := (h c (by simp)).1; simp only [bval]; omega
    have e : (b + 256 * bval bs) >>> 4 + (b + 256 * bval bs) = (b >>> 4 + 16 * (bval bs % 16) + b) + 256 * (bval bs >>> 4 + bval bs) := by
      simp only [Nat.shiftRight_eq_div_pow]; omega
    have hlt : b >>> 4 + 16 * (bval bs % 16) + b < 256 := by simp only [Nat.shiftRight_eq_div_pow]; omega
    have e2 : (b >>> 4 + 16 * (bval bs % 16) + b) &&& 15 = (b >>> 4 + b) &&& 15 := by
      rw [show (15 : Nat) = 2 ^ 4 - 1 from rfl, Nat.and_two_pow_sub_one_eq_mod, Nat.and_two_pow_sub_one_eq_mod]; omega
    rw [e, and_cons256 hlt (by decide), e2, ih (fun x hx => h x (by simp [hx]))]
def pc (n x : Nat) : Nat := (List.range n).countP (fun i => x.testBit i)
def oc1 (b : Nat) : Nat := (b >>> 1 &&& 85) + (b &&& 85)
def oc2 (b : Nat) : Nat := (b >>> 2 &&& 51) + (b &&& 51)
def oc3 (b : Nat) : Nat := (b >>> 4 + b) &&& 15
theorem oc_bytes : ∀ b : Fin 256, oc1 b < 256 ∧ oc2 (oc1 b) % 16 ≤ 4 ∧ oc2 (oc1 b) / 16 ≤ 4 ∧ oc3 (oc2 (oc1 b)) = pc 8 b ∧ pc 8 b ≤ 8 := by decide +kernel
theorem shr_mask1 : ∀ b : Fin 256, ∀ r : Fin 2, ((b : Nat) >>> 1 + 128 * r) &&& 85 = (b : Nat) >>> 1 &&& 85 := by decide +kernel
theorem shr_mask2 : ∀ b : Fin 256, ∀ r : Fin 4, ((b : Nat) >>> 2 + 64 * r) &&& 51 = (b : Nat) >>> 2 &&& 51 := by decide +kernel
def toBytes : Nat → Nat → List Nat
  | 0, _ => []
  | n + 1, x => x % 256 :: toBytes n (x / 256)
theorem toBytes_len (n x : Nat) : (toBytes n x).length = n := by induction n generalizing x with | zero => rfl | succ n ih => simp [toBytes, ih]
theorem toBytes_lt (n x : Nat) : ∀ b ∈ toBytes n x, b < 256 := by
  induction n generalizing x with
  | zero => intro b hb; simp [toBytes] at hb
  | succ n ih =>
    intro b hb
    rcases List.mem_cons.1 hb with rfl | hb
    · omega
    · exact ih _ b hb
theorem toBytes_val (n x : Nat) (h : x < 256 ^ n) : bval (toBytes n x) = x := by
  induction n generalizing x with
  | zero => simp at h; subst h; rfl
  | succ n ih =>
    simp only [toBytes, bval]
    rw [ih (x / 256) (by rw [Nat.pow_succ] at h; omega)]; omega
theorem pc_cons (n b y : Nat) (hb : b < 256) : pc (8 + n) (b + 256 * y) = pc 8 b + pc n y := by
  unfold pc
  rw [List.range_add, List.countP_append, List.countP_map]
  have e1 : b + 256 * y = 2 ^ 8 * y + b := by omega
  congr 1
  · refine List.countP_congr fun i hi => ?_
    rw [e1, Nat.testBit_two_pow_mul_add _ hb, if_pos (List.mem_range.1 hi)]
  · refine List.countP_congr fun i hi => ?_
    simp only [Function.comp]
    rw [e1, Nat.testBit_two_pow_mul_add _ hb, if_neg (by omega), show 8 + i - 8 = i by omega]
theorem pc_bval (bs : List Nat) (h : ∀ b ∈ bs, b < 256) : pc (8 * bs.length) (bval bs) = (bs.map (pc 8)).sum := by
  induction bs with
  | nil => rfl
  | cons b bs ih =>
    simp only [List.length_cons, bval, List.map_cons, List.sum_cons]
    rw [show 8 * (bs.length + 1) = 8 + 8 * bs.length by omega, pc_cons _ _ _ (h b (by simp)), ih (fun x hx => h x (by simp [hx]))]
def onesC (x : Nat) : Nat :=
  let a := (x >>> 1 &&& 6148914691236517205) + (x &&& 6148914691236517205)
  let b := (a >>> 2 &&& 3689348814741910323) + (a &&& 3689348814741910323)
  let c := (b >>> 4 + b) &&& 1085102592571150095
  let d := c + c >>> 8
  let e := d + d >>> 16
  let f := e + e >>> 32
  f % 128
theorem dig_add (x y u v : Nat) : (x + 256 * u) + (y + 256 * v) = (x + y) + 256 * (u + v) := by omega
theorem dig_div1 {x u : Nat} (h : x < 256) : (x + 256 * u) / 256 = u := by omega
theorem dig_div2 {x y u : Nat} (h : x < 256) (h2 : y < 256) : (x + 256 * (y + 256 * u)) / 65536 = u := by omega
theorem dig_div4 {x y z w u : Nat} (h : x < 256) (h2 : y < 256) (h3 : z < 256) (h4 : w < 256) : (x + 256 * (y + 256 * (z + 256 * (w + 256 * u)))) / 4294967296 = u := by omega
theorem dig_mod {x u n : Nat} (h : x = n) (h1 : x < 128) : (x + 256 * u) % 128 = n := by omega
theorem fold8 {a b c d e f g h : Nat} (ha : a ≤ 8) (hb : b ≤ 8) (hc : c ≤ 8) (hd : d ≤ 8) (he : e ≤ 8) (hf : f ≤ 8) (hg : g ≤ 8) (hh : h ≤ 8) :
    (a + 256 * (b + 256 * (c + 256 * (d + 256 * (e + 256 * (f + 256 * (g + 256 * (h + 256 * 0))))))) + (a + 256 * (b + 256 * (c + 256 * (d + 256 * (e + 256 * (f + 256 * (g + 256 * (h + 256 * 0)))))))) / 256 + (a + 256 * (b + 256 * (c + 256 * (d + 256 * (e + 256 * (f + 256 * (g + 256 * (h + 256 * 0))))))) + (a + 256 * (b + 256 * (c + 256 * (d + 256 * (e + 256 * (f + 256 * (g + 256 * (h + 256 * 0)))))))) / 256) / 65536 +
      (a + 256 * (b + 256 * (c + 256 * (d + 256 * (e + 256 * (f + 256 * (g + 256 * (h + 256 * 0))))))) + (a + 256 * (b + 256 * (c + 256 * (d + 256 * (e + 256 * (f + 256 * (g + 256 * (h + 256 * 0)))))))) / 256 + (a + 256 * (b + 256 * (c + 256 * (d + 256 * (e + 256 * (f + 256 * (g + 256 * (h + 256 * 0))))))) + (a + 256 * (b + 256 * (c + 256 * (d + 256 * (e + 256 * (f + 256 * (g + 256 * (h + 256 * 0)))))))) / 256) / 65536) / 4294967296) % 128 = a + (b + (c + (d + (e + (f + (g + (h + 0))))))) := by
  rw [dig_div1 (by omega)]
  simp only [dig_add]
  rw [dig_div2 (by omega) (by omega)]
  simp only [dig_add]
  rw [dig_div4 (by omega) (by omega) (by omega) (by omega)]
  simp only [dig_add]
  exact dig_mod (by omega) (by omega)
theorem onesC_eq {x : Nat} (hx : x < 18446744073709551616) : onesC x = pc 64 x := by
  obtain ⟨bs, hbs⟩ : ∃ bs, bs = toBytes 8 x := ⟨_, rfl⟩
  have hl : bs.length = 8 := by rw [hbs, toBytes_len]
  have hlt : ∀ b ∈ bs, b < 256 := by rw [hbs]; exact toBytes_lt 8 x
  have hv : bval bs = x := by rw [hbs]; exact toBytes_val 8 x (by simpa using hx)
  have m0 : bval (List.replicate bs.length 85) = 6148914691236517205 := by rw [hl]; rfl
  have f1 : ∀ b : Nat, b < 256 → oc1 b < 256 ∧ oc2 (oc1 b) % 16 ≤ 4 ∧ oc2 (oc1 b) / 16 ≤ 4 ∧ oc3 (oc2 (oc1 b)) = pc 8 b ∧ pc 8 b ≤ 8 := fun b hb => oc_bytes ⟨b, hb⟩
  have s1 : (x >>> 1 &&& 6148914691236517205) + (x &&& 6148914691236517205) = bval (bs.map oc1) := by
    rw [← m0, ← hv, bval_shr (by decide) (by decide) (fun b r hb hr => shr_mask1 ⟨b, hb⟩ ⟨r, hr⟩) hlt, bval_and (by decide) hlt, bval_add]; rfl
  have l1 : (bs.map oc1).length = 8 := by rw [List.length_map, hl]
  have lt1 : ∀ b ∈ bs.map oc1, b < 256 := by
    intro b hb
    obtain ⟨c, hc, rfl⟩ := List.mem_map.1 hb
    exact (f1 c (hlt c hc)).1
  have m1 : bval (List.replicate (bs.map oc1).length 51) = 3689348814741910323 := by rw [l1]; rfl
  have s2 : (bval (bs.map oc1) >>> 2 &&& 3689348814741910323) + (bval (bs.map oc1) &&& 3689348814741910323) = bval ((bs.map oc1).map oc2) := by
    rw [← m1, bval_shr (by decide) (by decide) (fun b r hb hr => shr_mask2 ⟨b, hb⟩ ⟨r, hr⟩) lt1, bval_and (by decide) lt1, bval_add]; rfl
  have l2 : ((bs.map oc1).map oc2).length = 8 := by rw [List.length_map, l1]
  have m2 : bval (List.replicate ((bs.map oc1).map oc2).length 15) = 1085102592571150095 := by rw [l2]; rfl
  have n2 : ∀ b ∈ (bs.map oc1).map oc2, b % 16 ≤ 4 ∧ b / 16 ≤ 4 := by
    intro b hb
    obtain ⟨c, hc, rfl⟩ := List.mem_map.1 hb
    obtain ⟨d, hd, rfl⟩ := List.mem_map.1 hc
    exact ⟨(f1 d (hlt d hd)).2.1, (f1 d (hlt d hd)).2.2.1⟩
  have s3 : (bval ((bs.map oc1).map oc2) >>> 4 + bval ((bs.map oc1).map oc2)) &&& 1085102592571150095 = bval (((bs.map oc1).map oc2).map oc3) := by
    rw [← m2, bval_nib n2]; rfl
  have s4 : ((bs.map oc1).map oc2).map oc3 = bs.map (pc 8) := by
    rw [List.map_map, List.map_map]
    refine List.map_congr_left fun b hb => ?_
    exact (f1 b (hlt b hb)).2.2.2.1
  have h8 : ∀ b ∈ bs.map (pc 8), b ≤ 8 := by
    intro b hb
    obtain ⟨c, hc, rfl⟩ := List.mem_map.1 hb
    exact (f1 c (hlt c hc)).2.2.2.2
  have hp : pc 64 x = (bs.map (pc 8)).sum := by rw [← hv, ← pc_bval bs hlt, hl]
  unfold onesC
  simp only []
  rw [s1, s2, s3, s4, hp]
  obtain ⟨cs, hcs⟩ : ∃ cs, cs = bs.map (pc 8) := ⟨_, rfl⟩
  have hcl : cs.length = 8 := by rw [hcs, List.length_map, hl]
  rw [← hcs] at h8 ⊢
  clear s1 s2 s3 s4 hcs hp m0 m1 m2 n2
  match cs, hcl with
  | [a, b, c, d, e, f, g, h], _ =>
    simp only [List.mem_cons, List.not_mem_nil, or_false, forall_eq_or_imp, forall_eq] at h8
    obtain ⟨ha, hb, hc, hd, he, hf, hg, hh⟩ := h8
    simp only [bval, List.sum_cons, List.sum_nil, Nat.shiftRight_eq_div_pow, Nat.reducePow]
    exact fold8 ha hb hc hd he hf hg hh

/-! ### words of 64 bits: what is done to them -/
def shrW (w k : Int) : Int := ((w.toNat >>> k.toNat : Nat) : Int)
def shlW (w k : Int) : Int := (((w.toNat <<< k.toNat) % 18446744073709551616 : Nat) : Int)
def orW (a b : Int) : Int := ((a.toNat ||| b.toNat : Nat) : Int)
def andW (a b : Int) : Int := ((a.toNat &&& b.toNat : Nat) : Int)
def anW (a b : Int) : Int := ((a.toNat &&& (18446744073709551615 ^^^ b.toNat) : Nat) : Int)
def U64 (w : Int) : Prop := 0 ≤ w ∧ w < 18446744073709551616
theorem U64.nat {w : Int} (h : U64 w) : ∃ n : Nat, w = n ∧ n < 18446744073709551616 := ⟨w.toNat, by have := h.1; omega, by have := h.2; omega⟩
theorem shr_lt {n k : Nat} {b : Nat} (h : n < b) : n >>> k < b := Nat.lt_of_le_of_lt (Nat.shiftRight_le n k) h
theorem u_shr {w k : Int} (h : U64 w) : U64 (shrW w k) := by
  obtain ⟨n, rfl, hn⟩ := h.nat
  have h2 := shr_lt (k := k.toNat) hn
  unfold shrW U64
  rw [Int.toNat_natCast]
  generalize n >>> k.toNat = z at h2 ⊢
  omega
theorem u_shl {w k : Int} : U64 (shlW w k) := by constructor <;> simp only [shlW] <;> omega
theorem u_or {a b : Int} (ha : U64 a) (hb : U64 b) : U64 (orW a b) := by
  obtain ⟨m, rfl, hm⟩ := ha.nat; obtain ⟨n, rfl, hn⟩ := hb.nat
  have : m ||| n < 2 ^ 64 := Nat.or_lt_two_pow (by omega) (by omega)
  constructor <;> simp only [orW, Int.toNat_natCast] <;> omega
theorem u_an {a b : Int} (ha : U64 a) (hb : U64 b) : U64 (anW a b) := by
  obtain ⟨m, rfl, hm⟩ := ha.nat; obtain ⟨n, rfl, hn⟩ := hb.nat
  have : m &&& (18446744073709551615 ^^^ n) < 2 ^ 64 := Nat.and_lt_two_pow _ (Nat.xor_lt_two_pow (by omega) (by omega))
  constructor <;> simp only [anW, Int.toNat_natCast] <;> omega
theorem u_lit (n : Nat) (h : n < 18446744073709551616) : U64 (n : Int) := ⟨by omega, by omega⟩
section
variable {P : Program} {a : Act} {W : World} {d : Nat} {ty : TypeId} {ps : String} {af : Array Edge} {gd : Option (Nat × Bool)} {dst : Option Nat} {t t2 : TypeId} {x y : Operand}
theorem eqGuard_bits (op : BinOp) (h : op = .and ∨ op = .or ∨ op = .andNot ∨ op = .shl ∨ op = .shr ∨ op = .quo) (t : TypeId) (p q : Operand) (v u : Value) : (eqGuard op t p q v u : Sem Unit) = pure () := by rcases h with rfl | rfl | rfl | rfl | rfl | rfl <;> rfl
theorem bits_an_u64_nat (a b : Nat) (ha : a < 18446744073709551616) (hb : b < 18446744073709551616) : bits .andNot .u64 (a : Int) (b : Int) = ((a &&& (18446744073709551615 ^^^ b) : Nat) : Int) := by
  have hx : a &&& (18446744073709551615 ^^^ b) < 2 ^ 64 := Nat.and_lt_two_pow _ (Nat.xor_lt_two_pow (by omega) (by omega))
  have h1 : (BitVec.ofInt 64 (a : Int)).toNat = a := by
    rw [BitVec.ofInt_natCast, BitVec.toNat_ofNat]; exact Nat.mod_eq_of_lt (by omega)
  have h2 : (BitVec.ofInt 64 (b : Int)).toNat = b := by
    rw [BitVec.ofInt_natCast, BitVec.toNat_ofNat]; exact Nat.mod_eq_of_lt (by omega)
  have h3 : (~~~ (BitVec.ofInt 64 (b : Int))).toNat = 18446744073709551615 ^^^ b := by
    have hb2 : b < 2 ^ 64 := by omega
    have e : (18446744073709551615 : Nat) = 2 ^ 64 - 1 := rfl
    rw [BitVec.toNat_not, h2, e]
    apply Nat.eq_of_testBit_eq
    intro i
    have e9 : 2 ^ 64 - 1 - b = 2 ^ 64 - (b + 1) := by omega
    rw [e9, Nat.testBit_two_pow_sub_succ hb2, Nat.testBit_xor, Nat.testBit_two_pow_sub_one]
    by_cases hi : i < 64
    · simp [hi]
    · simp [hi, Nat.testBit_lt_two_pow (Nat.lt_of_lt_of_le hb2 (Nat.pow_le_pow_right (by decide) (Nat.le_of_not_lt hi)))]
  show IntKind.u64.wrap ((BitVec.ofInt 64 (a : Int) &&& ~~~ BitVec.ofInt 64 (b : Int)).toNat : Int) = _
  rw [BitVec.toNat_and, h1, h3, IntKind.wrap_u64]
  omega
theorem R_and {i j : Int} (hx : a.eval x = .int .u64 i) (hy : a.eval y = .int .u64 j) (hi : U64 i) (hj : U64 j) : (execOp a.eval ⟨dst, .binOp .and t x y t2, ty, ps, af, gd⟩).run P W = .ok (.value (.int .u64 (andW i j))) W := by
  obtain ⟨m, rfl, hm⟩ := hi.nat; obtain ⟨n, rfl, hn⟩ := hj.nat
  have h : Op.intBits .and .u64 (m : Int) (n : Int) = pure (.int .u64 (andW m n)) := by
    show pure (Value.int .u64 (bits .and .u64 (m : Int) (n : Int))) = _
    rw [bits_and_u64_nat m n hm hn]; rfl
  have h2 : binOp .and t (.int .u64 (m : Int)) (.int .u64 (n : Int)) = Op.intBits .and .u64 m n := rfl
  simp [execOp, hx, hy, eqGuard_bits, h2, h]
theorem R_or {i j : Int} (hx : a.eval x = .int .u64 i) (hy : a.eval y = .int .u64 j) (hi : U64 i) (hj : U64 j) : (execOp a.eval ⟨dst, .binOp .or t x y t2, ty, ps, af, gd⟩).run P W = .ok (.value (.int .u64 (orW i j))) W := by
  obtain ⟨m, rfl, hm⟩ := hi.nat; obtain ⟨n, rfl, hn⟩ := hj.nat
  have h : Op.intBits .or .u64 (m : Int) (n : Int) = pure (.int .u64 (orW m n)) := by
    show pure (Value.int .u64 (bits .or .u64 (m : Int) (n : Int))) = _
    rw [bits_or_u64_nat m n hm hn]; rfl
  have h2 : binOp .or t (.int .u64 (m : Int)) (.int .u64 (n : Int)) = Op.intBits .or .u64 m n := rfl
  simp [execOp, hx, hy, eqGuard_bits, h2, h]
theorem R_an {i j : Int} (hx : a.eval x = .int .u64 i) (hy : a.eval y = .int .u64 j) (hi : U64 i) (hj : U64 j) : (execOp a.eval ⟨dst, .binOp .andNot t x y t2, ty, ps, af, gd⟩).run P W = .ok (.value (.int .u64 (anW i j))) W := by
  obtain ⟨m, rfl, hm⟩ := hi.nat; obtain ⟨n, rfl, hn⟩ := hj.nat
  have h : Op.intBits .andNot .u64 (m : Int) (n : Int) = pure (.int .u64 (anW m n)) := by
    show pure (Value.int .u64 (bits .andNot .u64 (m : Int) (n : Int))) = _
    rw [bits_an_u64_nat m n hm hn]; rfl
  have h2 : binOp .andNot t (.int .u64 (m : Int)) (.int .u64 (n : Int)) = Op.intBits .andNot .u64 m n := rfl
  simp [execOp, hx, hy, eqGuard_bits, h2, h]
theorem R_shr {i j : Int} {k2 : IntKind} (hx : a.eval x = .int .u64 i) (hy : a.eval y = .int k2 j) (hi : U64 i) (h0 : 0 ≤ j) (h1 : j < 64) : (execOp a.eval ⟨dst, .binOp .shr t x y t2, ty, ps, af, gd⟩).run P W = .ok (.value (.int .u64 (shrW i j))) W := by
  obtain ⟨m, rfl, hm⟩ := hi.nat; obtain ⟨k, rfl⟩ := Int.eq_ofNat_of_zero_le h0
  have e3 : (m : Int) / (2 ^ k) = shrW m k := by
    unfold shrW
    rw [Int.toNat_natCast, Int.toNat_natCast, Nat.shiftRight_eq_div_pow]
    norm_cast
  have e2 : (m : Int).fdiv (2 ^ k) = shrW m k := by rw [Int.fdiv_eq_ediv_of_nonneg _ (Int.le_of_lt (Int.pow_pos (by decide))), e3]
  have h : Op.shift .shr .u64 (m : Int) k2 (k : Int) = pure (.int .u64 (shrW m k)) := by
    unfold Op.shift
    rw [if_neg (by omega)]
    have e : min ((k : Int).toNat) IntKind.u64.bits = k := by show min ((k : Int).toNat) 64 = k; omega
    simp only [e]
    rw [e2]
  have h2 : binOp .shr t (.int .u64 (m : Int)) (.int k2 (k : Int)) = Op.shift .shr .u64 m k2 k := rfl
  simp [execOp, hx, hy, eqGuard_bits, h2, h, e2, e3]
theorem R_shl {i j : Int} {k2 : IntKind} (hx : a.eval x = .int .u64 i) (hy : a.eval y = .int k2 j) (hi : U64 i) (h0 : 0 ≤ j) (h1 : j < 64) : (execOp a.eval ⟨dst, .binOp .shl t x y t2, ty, ps, af, gd⟩).run P W = .ok (.value (.int .u64 (shlW i j))) W := by
  obtain ⟨m, rfl, hm⟩ := hi.nat; obtain ⟨k, rfl⟩ := Int.eq_ofNat_of_zero_le h0
  have e2 : IntKind.u64.wrap ((m : Int) * 2 ^ k) = shlW m k := by
    unfold shlW
    rw [Int.toNat_natCast, Int.toNat_natCast, Nat.shiftLeft_eq, IntKind.wrap_u64, Int.natCast_emod, Int.natCast_mul, Int.natCast_pow]
    rfl
  have h : Op.shift .shl .u64 (m : Int) k2 (k : Int) = pure (.int .u64 (shlW m k)) := by
    unfold Op.shift
    rw [if_neg (by omega)]
    have e : min ((k : Int).toNat) IntKind.u64.bits = k := by show min ((k : Int).toNat) 64 = k; omega
    simp only [e]
    rw [e2]
  have h2 : binOp .shl t (.int .u64 (m : Int)) (.int k2 (k : Int)) = Op.shift .shl .u64 m k2 k := rfl
  simp [execOp, hx, hy, eqGuard_bits, h2, h, e2]
theorem R_quo {i j : Int} (hx : a.eval x = .int .i64 i) (hy : a.eval y = .int .i64 j) (h0 : 0 ≤ i) (h1 : i ≤ 9223372036854775807) (hj : 0 < j) : (execOp a.eval ⟨dst, .binOp .quo t x y t2, ty, ps, af, gd⟩).run P W = .ok (.value (.int .i64 (i / j))) W := by
  have e : i.tdiv j = i / j := Int.tdiv_eq_ediv_of_nonneg h0
  have h3 : 0 ≤ i / j := Int.ediv_nonneg h0 (by omega)
  have h4 : i / j ≤ i := Int.ediv_le_self _ h0
  have hd : Op.intDiv .quo .i64 i j = pure (.int .i64 (i / j)) := by unfold Op.intDiv; rw [if_neg (by omega), e]; simp only [IntKind.wrap_i64]; congr 2; omega
  have h2 : binOp .quo t (.int .i64 i) (.int .i64 j) = Op.intDiv .quo .i64 i j := rfl
  simp [execOp, hx, hy, eqGuard_bits, h2, hd]
theorem R_rem2 {i j : Int} (hx : a.eval x = .int .i64 i) (hy : a.eval y = .int .i64 j) (h0 : 0 ≤ i) (h1 : i ≤ 9223372036854775807) (hj : 0 < j) : (execOp a.eval ⟨dst, .binOp .rem t x y t2, ty, ps, af, gd⟩).run P W = .ok (.value (.int .i64 (i % j))) W := by
  have e : i.tmod j = i % j := Int.tmod_eq_emod_of_nonneg h0
  have hd : Op.intDiv .rem .i64 i j = pure (.int .i64 (i % j)) := by unfold Op.intDiv; rw [if_neg (by omega), e]
  have h2 : binOp .rem t (.int .i64 i) (.int .i64 j) = Op.intDiv .rem .i64 i j := rfl
  simp [execOp, hx, hy, eqGuard_rem, h2, hd]
theorem R_shrN {m k : Nat} {k2 : IntKind} (hx : a.eval x = .int .u64 (m : Int)) (hy : a.eval y = .int k2 (k : Int)) (hm : m < 18446744073709551616) (hk : k < 64) : (execOp a.eval ⟨dst, .binOp .shr t x y t2, ty, ps, af, gd⟩).run P W = .ok (.value (.int .u64 ((m >>> k : Nat) : Int))) W := by
  have h := R_shr (P := P) (W := W) (ty := ty) (ps := ps) (af := af) (gd := gd) (dst := dst) (t := t) (t2 := t2) hx hy (u_lit m hm) (by omega) (by omega)
  have e : shrW m k = ((m >>> k : Nat) : Int) := by unfold shrW; rw [Int.toNat_natCast, Int.toNat_natCast]
  rw [h, e]
theorem R_andN {m k : Nat} (hx : a.eval x = .int .u64 (m : Int)) (hy : a.eval y = .int .u64 (k : Int)) (hm : m < 18446744073709551616) (hk : k < 18446744073709551616) : (execOp a.eval ⟨dst, .binOp .and t x y t2, ty, ps, af, gd⟩).run P W = .ok (.value (.int .u64 ((m &&& k : Nat) : Int))) W := by
  have h := R_and (P := P) (W := W) (ty := ty) (ps := ps) (af := af) (gd := gd) (dst := dst) (t := t) (t2 := t2) hx hy (u_lit m hm) (u_lit k hk)
  have e : andW m k = ((m &&& k : Nat) : Int) := by unfold andW; rw [Int.toNat_natCast, Int.toNat_natCast]
  rw [h, e]
theorem R_addN {m k : Nat} (hx : a.eval x = .int .u64 (m : Int)) (hy : a.eval y = .int .u64 (k : Int)) (hm : m + k < 18446744073709551616) : (execOp a.eval ⟨dst, .binOp .add t x y t2, ty, ps, af, gd⟩).run P W = .ok (.value (.int .u64 ((m + k : Nat) : Int))) W := by
  have h2 : binOp .add t (.int .u64 (m : Int)) (.int .u64 (k : Int)) = Op.intArith .add .u64 m k := rfl
  have e : IntKind.u64.wrap ((m : Int) + (k : Int)) = ((m + k : Nat) : Int) := by rw [IntKind.wrap_u64]; omega
  simp [execOp, hx, hy, eqGuard, h2, Op.intArith, e]
theorem R_negN {m : Nat} {t3 : TypeId} (hx : a.eval x = .int .u64 (m : Int)) (h0 : m ≠ 0) (hm : m < 18446744073709551616) : (execOp a.eval ⟨dst, .unOp .neg t3 x, ty, ps, af, gd⟩).run P W = .ok (.value (.int .u64 ((18446744073709551616 - m : Nat) : Int))) W := by
  have e : IntKind.u64.wrap (0 - (m : Int)) = ((18446744073709551616 - m : Nat) : Int) := by rw [IntKind.wrap_u64]; omega
  have h2 : Op.unary .neg (.int .u64 (m : Int)) = (pure (.int .u64 (IntKind.u64.wrap (0 - (m : Int)))) : Sem Value) := rfl
  have e2 : IntKind.u64.wrap (-(m : Int)) = ((18446744073709551616 - m : Nat) : Int) := by rw [← e, Int.zero_sub]
  simp [execOp, hx, h2, e2]
theorem R_mulN {m k : Nat} (hx : a.eval x = .int .u64 (m : Int)) (hy : a.eval y = .int .u64 (k : Int)) : (execOp a.eval ⟨dst, .binOp .mul t x y t2, ty, ps, af, gd⟩).run P W = .ok (.value (.int .u64 ((m * k % 18446744073709551616 : Nat) : Int))) W := by
  have h2 : binOp .mul t (.int .u64 (m : Int)) (.int .u64 (k : Int)) = Op.intArith .mul .u64 m k := rfl
  have e : IntKind.u64.wrap ((m : Int) * (k : Int)) = ((m * k % 18446744073709551616 : Nat) : Int) := by rw [IntKind.wrap_u64, Int.natCast_emod, Int.natCast_mul]; rfl
  simp [execOp, hx, hy, eqGuard, h2, Op.intArith, e]
theorem R_idxArr {g m N : Nat} {e : TypeId} {k : IntKind} (hx : a.eval x = .pointer (some ⟨g, 0, none⟩)) (hy : a.eval y = .int k (m : Int)) (ht : P.underlying t = some (.array N e)) (hz : (P.info? e).map (·.size) = some 1) (h1 : m < N) :
    (execOp a.eval ⟨dst, .indexAddr t x y, ty, ps, af, gd⟩).run P W = .ok (.value (.pointer (some ⟨g, m, none⟩))) W := by
  have h3 : ¬ ((m : Int) < 0) := by omega
  simp [execOp, Instr.indexAt, Instr.sureAddr, hx, hy, asIntOf, run_underlying ht, run_sizeOf hz, h1, Addr.add_lit]
theorem R_and127 {i : Int} (hx : a.eval x = .int .i64 i) (hy : a.eval y = .int .i64 127) (h0 : 0 ≤ i) (h1 : i < 9223372036854775808) : (execOp a.eval ⟨dst, .binOp .and t x y t2, ty, ps, af, gd⟩).run P W = .ok (.value (.int .i64 (i % 128))) W := by
  have h := bits_mask .i64 63 (by decide) (fun n h0 h1 => by rw [IntKind.wrap_i64]; omega) 7 (by decide) i h0 (by simpa using h1)
  have h3 : Op.intBits .and .i64 i 127 = pure (.int .i64 (i % 128)) := by
    show pure (Value.int .i64 (bits .and .i64 i 127)) = _
    have h4 : bits .and .i64 i 127 = i % 128 := by simpa using h
    rw [h4]
  have h2 : binOp .and t (.int .i64 i) (.int .i64 127) = Op.intBits .and .i64 i 127 := rfl
  simp [execOp, hx, hy, eqGuard_bits, h2, h3]
end
attribute [irreducible] shrW shlW orW andW anW
/-! ### sets as rows of words -/
def tb (w k : Int) : Bool := w.toNat.testBit k.toNat
def bitI (ws : List Int) (i : Int) : Bool := tb (rdI ws (i / 64)) (i % 64)
theorem tb_shr {w k j : Int} (h0 : 0 ≤ k) (h1 : 0 ≤ j) : tb (shrW w k) j = tb w (k + j) := by
  unfold tb shrW
  rw [Int.toNat_natCast, Nat.testBit_shiftRight, Int.toNat_add h0 h1]
theorem tb_or {a b j : Int} : tb (orW a b) j = (tb a j || tb b j) := by
  unfold tb orW
  rw [Int.toNat_natCast, Nat.testBit_or]
theorem tb_an {a b j : Int} (h0 : 0 ≤ j) (h1 : j < 64) : tb (anW a b) j = (tb a j && !tb b j) := by
  unfold tb anW
  rw [Int.toNat_natCast, Nat.testBit_and, Nat.testBit_xor, show (18446744073709551615 : Nat) = 2 ^ 64 - 1 from rfl, Nat.testBit_two_pow_sub_one, decide_eq_true (by omega : j.toNat < 64), Bool.true_xor]
theorem tb_shl {w k j : Int} (h0 : 0 ≤ k) (hj : 0 ≤ j) (h1 : j < 64) : tb (shlW w k) j = (decide (k ≤ j) && tb w (j - k)) := by
  unfold tb shlW
  rw [Int.toNat_natCast, show (18446744073709551616 : Nat) = 2 ^ 64 from rfl, Nat.testBit_mod_two_pow, Nat.testBit_shiftLeft, decide_eq_true (by omega : j.toNat < 64), Bool.true_and]
  by_cases h : k ≤ j
  · rw [decide_eq_true h, decide_eq_true (by omega : j.toNat ≥ k.toNat), show (j - k).toNat = j.toNat - k.toNat by omega]
  · rw [decide_eq_false h, decide_eq_false (by omega : ¬ j.toNat ≥ k.toNat), Bool.false_and, Bool.false_and]
theorem tb_one {j : Int} (h0 : 0 ≤ j) : tb 1 j = decide (j = 0) := by
  unfold tb
  rw [show (1 : Int).toNat = 1 from rfl]
  by_cases h : j = 0
  · subst h; rfl
  · rw [decide_eq_false h]
    cases e : Nat.testBit 1 j.toNat with
    | false => rfl
    | true => have := Nat.testBit_one_eq_true_iff_self_eq_zero.1 e; omega
theorem tb_bit {k j : Int} (h0 : 0 ≤ k) (hj : 0 ≤ j) (h1 : j < 64) : tb (shlW 1 k) j = decide (j = k) := by
  rw [tb_shl h0 hj h1]
  by_cases h : k ≤ j
  · rw [decide_eq_true h, Bool.true_and, tb_one (by omega)]
    by_cases h2 : j = k
    · rw [decide_eq_true h2, decide_eq_true (by omega)]
    · rw [decide_eq_false h2, decide_eq_false (by omega)]
  · rw [decide_eq_false h, Bool.false_and, decide_eq_false (by omega)]
theorem and_one {w : Int} (h : U64 w) : andW w 1 = if tb w 0 then 1 else 0 := by
  obtain ⟨n, rfl, hn⟩ := h.nat
  unfold andW tb
  rw [Int.toNat_natCast, show (1 : Int).toNat = 1 from rfl, show (0 : Int).toNat = 0 from rfl, Nat.and_one_is_mod, Nat.testBit_zero]
  by_cases h2 : n % 2 = 1
  · rw [decide_eq_true h2, h2]; rfl
  · rw [decide_eq_false h2, show n % 2 = 0 by omega]; rfl
theorem shr_one {w k : Int} (h : U64 w) (h0 : 0 ≤ k) : andW (shrW w k) 1 = if tb w k then 1 else 0 := by
  rw [and_one (u_shr h), tb_shr h0 (Int.le_refl 0), Int.add_zero]
/-- Words of the same bits are the same. -/
theorem word_ext {a b : Int} (ha : U64 a) (hb : U64 b) (h : ∀ j, 0 ≤ j → j < 64 → tb a j = tb b j) : a = b := by
  obtain ⟨m, rfl, hm⟩ := ha.nat; obtain ⟨n, rfl, hn⟩ := hb.nat
  congr 1
  apply Nat.eq_of_testBit_eq
  intro i
  by_cases hi : i < 64
  · have := h (i : Int) (by omega) (by omega)
    simpa [tb] using this
  · have h1 : (2 : Nat) ^ 64 ≤ 2 ^ i := Nat.pow_le_pow_right (by decide) (by omega)
    rw [Nat.testBit_lt_two_pow (by omega), Nat.testBit_lt_two_pow (by omega)]
def ins (i : Int) : List Int → List Int
  | [] => [i]
  | x :: xs => if i < x then i :: x :: xs else x :: ins i xs
theorem mem_ins {i y : Int} {L : List Int} : y ∈ ins i L ↔ y = i ∨ y ∈ L := by
  induction L with
  | nil => simp [ins]
  | cons x xs ih =>
    unfold ins
    split
    · simp
    · simp only [List.mem_cons, ih]; constructor <;> (rintro (h | h | h) <;> simp [h])
theorem ins_sorted {i : Int} {L : List Int} (h : L.Pairwise (· < ·)) (hn : i ∉ L) : (ins i L).Pairwise (· < ·) := by
  induction L with
  | nil => simp [ins]
  | cons x xs ih =>
    have hx := List.pairwise_cons.1 h
    unfold ins
    split
    · rename_i hlt
      refine List.pairwise_cons.2 ⟨fun y hy => ?_, h⟩
      rcases List.mem_cons.1 hy with rfl | hy
      · exact hlt
      · have := hx.1 y hy; omega
    · rename_i hge
      have hne : i ≠ x := fun e => hn (by simp [e])
      refine List.pairwise_cons.2 ⟨fun y hy => ?_, ih hx.2 (fun h2 => hn (by simp [h2]))⟩
      rcases mem_ins.1 hy with rfl | hy
      · omega
      · exact hx.1 y hy
/-- Rising rows of the same members are the same. -/
theorem sorted_ext {L M : List Int} (hL : L.Pairwise (· < ·)) (hM : M.Pairwise (· < ·)) (h : ∀ x, x ∈ L ↔ x ∈ M) : L = M := by
  induction L generalizing M with
  | nil => cases M with
    | nil => rfl
    | cons y ys => have := (h y).2 (by simp); simp at this
  | cons x xs ih =>
    cases M with
    | nil => have := (h x).1 (by simp); simp at this
    | cons y ys =>
      have hx := List.pairwise_cons.1 hL; have hy := List.pairwise_cons.1 hM
      have e : x = y := by
        rcases List.mem_cons.1 ((h x).1 (by simp)) with e | h1
        · exact e
        · rcases List.mem_cons.1 ((h y).2 (by simp)) with e | h2
          · exact e.symm
          · have := hy.1 x h1; have := hx.1 y h2; omega
      subst e
      congr 1
      refine ih hx.2 hy.2 fun z => ?_
      constructor
      · intro hz
        rcases List.mem_cons.1 ((h z).1 (by simp [hz])) with rfl | h1
        · have := hx.1 z hz; omega
        · exact h1
      · intro hz
        rcases List.mem_cons.1 ((h z).2 (by simp [hz])) with rfl | h1
        · have := hy.1 z hz; omega
        · exact h1
theorem rdW_set {xs : List Int} {i x v : Int} (h0 : 0 ≤ i) (h1 : i < xs.length) (hx : 0 ≤ x) : rdI (xs.set i.toNat v) x = if x = i then v else rdI xs x := by
  unfold rdI
  rw [List.getD_eq_getElem?_getD, List.getD_eq_getElem?_getD, List.getElem?_set]
  by_cases e : x = i
  · subst e
    rw [if_pos rfl, if_pos rfl, if_pos (by omega)]; rfl
  · rw [if_neg e, if_neg (by omega)]
structure Rep (ws : List Int) (n : Int) (L : List Int) : Prop where
  len : (ws.length : Int) = (n + 63) / 64
  n0 : 0 ≤ n
  rng : ∀ w ∈ ws, U64 w
  mem : ∀ i : Int, 0 ≤ i → i < 64 * ws.length → (bitI ws i = true ↔ i ∈ L)
  srt : L.Pairwise (· < ·)
  lim : ∀ x ∈ L, 0 ≤ x ∧ x < n
namespace Rep
variable {ws vs : List Int} {n i : Int} {L M : List Int}
theorem idx (h : Rep ws n L) (h0 : 0 ≤ i) (h1 : i < n) : 0 ≤ i / 64 ∧ i / 64 < ws.length ∧ 0 ≤ i % 64 ∧ i % 64 < 64 := by have := h.len; omega
theorem rd (h : Rep ws n L) {k : Int} (h0 : 0 ≤ k) (h1 : k < ws.length) : U64 (rdI ws k) := h.rng _ (List.mem_of_getElem? (rdI_eq h0 h1))
theorem rd_at (h : Rep ws n L) (h0 : 0 ≤ i) (h1 : i < n) : U64 (rdI ws (i / 64)) := h.rd (h.idx h0 h1).1 (h.idx h0 h1).2.1
theorem bit (h : Rep ws n L) (h0 : 0 ≤ i) (h1 : i < n) : bitI ws i = true ↔ i ∈ L := h.mem i h0 (by have := h.len; omega)
theorem has_t (h : Rep ws n L) (hi : i ∈ L) : andW (shrW (rdI ws (i / 64)) (i % 64)) 1 = 1 := by
  have hl := h.lim i hi
  rw [shr_one (h.rd_at hl.1 hl.2) (by omega), if_pos (show tb _ _ = true from (h.bit hl.1 hl.2).2 hi)]
theorem has_f (h : Rep ws n L) (h0 : 0 ≤ i) (h1 : i < n) (hi : i ∉ L) : ¬ andW (shrW (rdI ws (i / 64)) (i % 64)) 1 = 1 := by
  rw [shr_one (h.rd_at h0 h1) (by omega), if_neg (fun hb : tb _ _ = true => hi ((h.bit h0 h1).1 hb))]; decide
theorem out (h : Rep ws n L) (hi : i < 0 ∨ n ≤ i) : i ∉ L := fun hm => by have := h.lim i hm; omega
theorem set_ (h : Rep ws n L) {w' : Int} (h0 : 0 ≤ i) (h1 : i < n) (hw : U64 w') (hs : M.Pairwise (· < ·)) (hl : ∀ x ∈ M, 0 ≤ x ∧ x < n)
    (hin : ∀ j, 0 ≤ j → j < 64 → (tb w' j = true ↔ 64 * (i / 64) + j ∈ M)) (hout : ∀ x, x / 64 ≠ i / 64 → (x ∈ M ↔ x ∈ L)) : Rep (ws.set (i / 64).toNat w') n M := by
  have hi := h.idx h0 h1
  refine ⟨by rw [List.length_set]; exact h.len, h.n0, fun w hw' => ?_, fun x hx0 hx1 => ?_, hs, hl⟩
  · rcases List.mem_or_eq_of_mem_set hw' with hw' | rfl
    · exact h.rng w hw'
    · exact hw
  · rw [List.length_set] at hx1
    unfold bitI
    by_cases e : x / 64 = i / 64
    · rw [e, rdW_set hi.1 hi.2.1 hi.1, if_pos rfl, hin (x % 64) (by omega) (by omega), show 64 * (i / 64) + x % 64 = x by omega]
    · rw [rdW_set hi.1 hi.2.1 (by omega), if_neg e]
      exact (h.mem x hx0 hx1).trans (hout x e).symm
theorem add (h : Rep ws n L) (h0 : 0 ≤ i) (h1 : i < n) (hn : i ∉ L) : Rep (ws.set (i / 64).toNat (orW (rdI ws (i / 64)) (shlW 1 (i % 64)))) n (ins i L) := by
  have hi := h.idx h0 h1
  refine h.set_ h0 h1 (u_or (h.rd_at h0 h1) u_shl) (ins_sorted h.srt hn) (fun x hx => ?_) (fun j hj0 hj1 => ?_) (fun x hx => ?_)
  · rcases mem_ins.1 hx with rfl | hx
    · exact ⟨h0, h1⟩
    · exact h.lim x hx
  · rw [tb_or, tb_bit hi.2.2.1 hj0 hj1, mem_ins, Bool.or_eq_true, decide_eq_true_eq]
    have hm := h.mem (64 * (i / 64) + j) (by omega) (by omega)
    unfold bitI at hm
    rw [show (64 * (i / 64) + j) / 64 = i / 64 by omega, show (64 * (i / 64) + j) % 64 = j by omega] at hm
    rw [hm]
    constructor
    · rintro (h2 | h2)
      · exact .inr h2
      · exact .inl (by omega)
    · rintro (h2 | h2)
      · exact .inr (by omega)
      · exact .inl h2
  · rw [mem_ins]
    constructor
    · rintro (rfl | h2)
      · exact absurd rfl hx
      · exact h2
    · exact .inr
end Rep
/-! ### how many, the next one, two sets -/
def cntW (ws : List Int) (k : Nat) : Nat := ((List.range k).map fun (j : Nat) => pc 64 (rdI ws (j : Int)).toNat).sum
theorem cntW_succ (ws : List Int) (k : Nat) : cntW ws (k + 1) = cntW ws k + pc 64 (rdI ws (k : Int)).toNat := by
  unfold cntW
  rw [List.range_succ, List.map_append, List.sum_append]; simp
theorem cntW_eq (ws : List Int) (k : Nat) : (List.range (64 * k)).countP (fun (i : Nat) => bitI ws (i : Int)) = cntW ws k := by
  induction k with
  | zero => rfl
  | succ k ih =>
    rw [cntW_succ, ← ih, show 64 * (k + 1) = 64 * k + 64 by omega, List.range_add, List.countP_append, List.countP_map]
    congr 1
    unfold pc
    refine List.countP_congr fun j hj => ?_
    have := List.mem_range.1 hj
    simp only [Function.comp, bitI, tb]
    rw [show (((64 * k + j : Nat) : Int) / 64) = (k : Int) by omega, show (((64 * k + j : Nat) : Int) % 64).toNat = j by omega]
theorem pc_le (n x : Nat) : pc n x ≤ n := by
  unfold pc
  have := List.countP_le_length (p := fun i => x.testBit i) (l := List.range n)
  rwa [List.length_range] at this
theorem cntW_le (ws : List Int) (k : Nat) : cntW ws k ≤ 64 * k := by
  induction k with
  | zero => exact Nat.le_refl _
  | succ k ih => rw [cntW_succ]; have := pc_le 64 (rdI ws (k : Int)).toNat; omega
namespace Rep
variable {ws vs : List Int} {n i : Int} {L M : List Int}
theorem lst (h : Rep ws n L) : L = ((List.range (64 * ws.length)).filter (fun (i : Nat) => bitI ws (i : Int))).map (fun (i : Nat) => (i : Int)) := by
  refine sorted_ext h.srt (List.pairwise_map.2 (((List.pairwise_lt_range).filter _).imp (fun hab => by omega))) fun x => ?_
  simp only [List.mem_map, List.mem_filter, List.mem_range]
  constructor
  · intro hx
    have hl := h.lim x hx
    have hlen := h.len
    refine ⟨x.toNat, ⟨by omega, ?_⟩, by omega⟩
    rw [show ((x.toNat : Nat) : Int) = x by omega]
    exact (h.bit hl.1 hl.2).2 hx
  · rintro ⟨j, ⟨h1, h2⟩, rfl⟩
    exact (h.mem (j : Int) (by omega) (by omega)).1 h2
theorem cnt (h : Rep ws n L) : cntW ws ws.length = L.length := by
  rw [← cntW_eq, List.countP_eq_length_filter]
  have := congrArg List.length h.lst
  rw [List.length_map] at this
  exact this.symm
theorem llen (h : Rep ws n L) : (L.length : Int) ≤ n + 63 := by
  have h1 := h.cnt; have h2 := cntW_le ws ws.length; have := h.len; omega
theorem ext (h : Rep ws n L) (h' : Rep vs n L) : ws = vs := by
  have hl : ws.length = vs.length := by have := h.len; have := h'.len; omega
  refine List.ext_getElem hl fun k h1 h2 => ?_
  have e1 : rdI ws (k : Int) = ws[k] := by have := rdI_eq (xs := ws) (i := (k : Int)) (by omega) (by omega); rw [Int.toNat_natCast, List.getElem?_eq_getElem h1] at this; exact (Option.some.inj this).symm
  have e2 : rdI vs (k : Int) = vs[k] := by have := rdI_eq (xs := vs) (i := (k : Int)) (by omega) (by omega); rw [Int.toNat_natCast, List.getElem?_eq_getElem h2] at this; exact (Option.some.inj this).symm
  rw [← e1, ← e2]
  refine word_ext (h.rd (by omega) (by omega)) (h'.rd (by omega) (by omega)) fun j hj0 hj1 => ?_
  have a1 := h.mem (64 * k + j) (by omega) (by omega)
  have a2 := h'.mem (64 * k + j) (by omega) (by omega)
  unfold bitI at a1 a2
  rw [show (64 * (k : Int) + j) / 64 = k by omega, show (64 * (k : Int) + j) % 64 = j by omega] at a1 a2
  exact Bool.eq_iff_iff.2 (a1.trans a2.symm)
theorem inj (h : Rep ws n L) (h' : Rep ws n M) : L = M := by rw [h.lst, h'.lst]
end Rep
/-- The least member from a number on; -1: there is none. -/
def nxt (L : List Int) (i : Int) : Int := (L.find? (fun x => decide (i ≤ x))).getD (-1)
theorem nxt_none {L : List Int} {i : Int} (h : ∀ x ∈ L, ¬ i ≤ x) : nxt L i = -1 := by
  unfold nxt
  rw [List.find?_eq_none.2 (fun x hx => by simpa using h x hx)]; rfl
theorem nxt_mem {L : List Int} {i x : Int} (hs : L.Pairwise (· < ·)) (hx : x ∈ L) (hi : i ≤ x) (hm : ∀ y ∈ L, i ≤ y → x ≤ y) : nxt L i = x := by
  unfold nxt
  cases e : L.find? (fun x => decide (i ≤ x)) with
  | none => have := List.find?_eq_none.1 e x hx; simp at this; omega
  | some z =>
    have h1 := List.mem_of_find?_eq_some e
    have h2 := List.find?_some e
    simp at h2
    have h3 := hm z h1 h2
    obtain ⟨h4, as_, bs, rfl, h5⟩ := List.find?_eq_some_iff_append.1 e
    rcases List.mem_append.1 hx with h6 | h6
    · have := h5 x h6; simp at this; omega
    · rcases List.mem_cons.1 h6 with rfl | h7
      · rfl
      · have := (List.pairwise_cons.1 (List.pairwise_append.1 hs).2.1).1 x h7; simp; omega
theorem ctz_spec {x : Nat} (h0 : x ≠ 0) (h : x < 18446744073709551616) : Lib.ctz 64 x < 64 ∧ x.testBit (Lib.ctz 64 x) = true ∧ ∀ j, j < Lib.ctz 64 x → x.testBit j = false := by
  obtain ⟨m, hm, hc⟩ := Lib.ctzFrom_spec 64 x (by omega) (by simpa using h)
  have e : Lib.ctz 64 x = Lib.ctzFrom 64 x := by unfold Lib.ctz; rw [if_neg h0]
  rw [e]
  refine ⟨hc, ?_, fun j hj => ?_⟩
  · rw [Nat.testBit_eq_decide_div_mod_eq]
    have hx := hm
    generalize Lib.ctzFrom 64 x = c at hx ⊢
    rw [hx, Nat.mul_div_cancel_left _ (Nat.two_pow_pos c)]
    exact decide_eq_true (by omega)
  · rw [Nat.testBit_eq_decide_div_mod_eq]
    have hx := hm
    generalize Lib.ctzFrom 64 x = c at hx hj
    refine decide_eq_false ?_
    rw [hx, show c = j + (1 + (c - j - 1)) by omega, Nat.pow_add, Nat.mul_assoc, Nat.mul_div_cancel_left _ (Nat.two_pow_pos j), Nat.pow_add, Nat.mul_assoc]
    omega
/-- The word from which a search goes on: its bits are the members of the set from a number on. -/
def Nw (ws : List Int) (i k w : Int) : Prop := U64 w ∧ ∀ j, 0 ≤ j → j < 64 → tb w j = (tb (rdI ws k) j && decide (i ≤ 64 * k + j))
namespace Rep
variable {ws vs : List Int} {n i k w : Int} {L M : List Int}
theorem nw_first (h : Rep ws n L) (h0 : 0 ≤ i) (h1 : i < n) : Nw ws i (i / 64) (shlW (shrW (rdI ws (i / 64)) (i % 64)) (i % 64)) := by
  refine ⟨u_shl, fun j hj0 hj1 => ?_⟩
  rw [tb_shl (by omega) hj0 hj1]
  by_cases hk : i % 64 ≤ j
  · rw [decide_eq_true hk, Bool.true_and, tb_shr (by omega) (by omega), show i % 64 + (j - i % 64) = j by omega, decide_eq_true (by omega), Bool.and_true]
  · rw [decide_eq_false hk, Bool.false_and, decide_eq_false (by omega), Bool.and_false]
theorem nw_next (h : Rep ws n L) (h0 : 0 ≤ k) (h1 : k < ws.length) (hi : i ≤ 64 * k) : Nw ws i k (rdI ws k) := by
  refine ⟨h.rd h0 h1, fun j hj0 hj1 => ?_⟩
  rw [decide_eq_true (by omega), Bool.and_true]
theorem nw_mem (h : Rep ws n L) (h0 : 0 ≤ k) (h1 : k < ws.length) (hw : Nw ws i k w) {j : Int} (hj0 : 0 ≤ j) (hj1 : j < 64) : tb w j = true ↔ 64 * k + j ∈ L ∧ i ≤ 64 * k + j := by
  rw [hw.2 j hj0 hj1, Bool.and_eq_true, decide_eq_true_eq]
  have hm := h.mem (64 * k + j) (by omega) (by omega)
  unfold bitI at hm
  rw [show (64 * k + j) / 64 = k by omega, show (64 * k + j) % 64 = j by omega] at hm
  rw [hm]
theorem nxt_found (h : Rep ws n L) (h0 : 0 ≤ k) (h1 : k < ws.length) (hw : Nw ws i k w) (hne : w ≠ 0) (hlow : ∀ x ∈ L, i ≤ x → 64 * k ≤ x) : nxt L i = k * 64 + (Lib.ctz 64 w.toNat : Nat) ∧ Lib.ctz 64 w.toNat < 64 := by
  obtain ⟨hu1, hu2⟩ := hw.1
  obtain ⟨hc, ht, hl⟩ := ctz_spec (x := w.toNat) (by omega) (by omega)
  refine ⟨?_, hc⟩
  have hm := (h.nw_mem h0 h1 hw (j := (Lib.ctz 64 w.toNat : Nat)) (by omega) (by omega)).1 (by unfold tb; rw [Int.toNat_natCast]; exact ht)
  rw [show k * 64 + ((Lib.ctz 64 w.toNat : Nat) : Int) = 64 * k + (Lib.ctz 64 w.toNat : Nat) by omega]
  refine nxt_mem h.srt hm.1 hm.2 fun y hy hiy => ?_
  have hy2 := hlow y hy hiy
  refine Int.not_lt.1 fun hlt => ?_
  have hj := (h.nw_mem h0 h1 hw (j := y - 64 * k) (by omega) (by omega)).2 ⟨by rw [show 64 * k + (y - 64 * k) = y by omega]; exact hy, by omega⟩
  have := hl (y - 64 * k).toNat (by omega)
  unfold tb at hj
  rw [this] at hj; cases hj
theorem nxt_skip (h : Rep ws n L) (h0 : 0 ≤ k) (h1 : k < ws.length) (hw : Nw ws i k w) (hz : w = 0) (hlow : ∀ x ∈ L, i ≤ x → 64 * k ≤ x) : ∀ x ∈ L, i ≤ x → 64 * (k + 1) ≤ x := by
  intro x hx hix
  have h2 := hlow x hx hix
  refine Int.not_lt.1 fun hlt => ?_
  have hj := (h.nw_mem h0 h1 hw (j := x - 64 * k) (by omega) (by omega)).2 ⟨by rw [show 64 * k + (x - 64 * k) = x by omega]; exact hx, by omega⟩
  subst hz
  unfold tb at hj
  rw [show (0 : Int).toNat = 0 from rfl, Nat.zero_testBit] at hj; cases hj
theorem nxt_over (h : Rep ws n L) (hlow : ∀ x ∈ L, i ≤ x → 64 * (ws.length : Int) ≤ x) : nxt L i = -1 :=
  nxt_none fun x hx hix => by have := hlow x hx hix; have := h.lim x hx; have := h.len; omega
theorem nxt_out (h : Rep ws n L) (hi : n ≤ i) : nxt L i = -1 := nxt_none fun x hx hix => by have := h.lim x hx; omega
end Rep
theorem nxt_neg {L : List Int} {i : Int} (h : ∀ x ∈ L, 0 ≤ x) (hi : i < 0) : nxt L i = nxt L 0 := by
  unfold nxt
  congr 1
  induction L with
  | nil => rfl
  | cons x xs ih =>
    have := h x (by simp)
    simp only [List.find?_cons, decide_eq_true (by omega : i ≤ x), decide_eq_true this]

/-! ### ranges over functions -/
/-- All may be done, in a round or in none. -/
def FW (ρ : Option Nat) : Fence := { Fence.wide with round := ρ }
def plainB (ol : List Oper) : Bool := ol.all fun o => match o.op with | .defer _ => false | _ => true
theorem plain_spec {ol : List Oper} (h : plainB ol = true) : ∀ o ∈ ol, ∀ c, o.op ≠ .defer c := by
  intro o ho c e
  have := List.all_eq_true.1 h o ho
  rw [e] at this; cases this
section
variable {P : Program} {ops : Array Oper} {Q : Exit → Act → World → Prop} {rest : List Oper} {D : Option Nat} {l : List Value} {W W' W0 : World} {M N : Nat → Prop} {L G : List Ent} {v : Value} {op : Op} {d : Nat} {ty : TypeId} {ps : String} {af : Array Edge} {gd : Option (Nat × Bool)} {ρ : Option Nat} {n B : Nat} {a : Act} {w : World} {e : Ent}
theorem calls_in {f : FuncId} {args : Array Value} {R : Ending → World → Prop} (h : Calls P f args w R) : CallsIn (FW ρ) n P f args w R :=
  show CallsIn Fence.wide n P f args w R from callsIn_wide.2 h
theorem rows_in {r : String} {args : Array Value} {R : Value → World → Prop} (h : Rows P r args w R) : RowsIn (FW ρ) n P r args w R := fun c cs _ =>
  let ⟨v, w', hr, hs⟩ := h c cs
  ⟨v, w', hr, (stepsIn_wide (P := P)).2 hs⟩
theorem oper_in {o : Oper} {next next' : Act → World → Prop} (hd : ∀ c, o.op ≠ .defer c) (hn : ∀ a w, next a w → next' a w) (h : o.wp P a w next Q) : o.wpIn (FW ρ) n P a w next' Q := by
  unfold Oper.wp at h
  refine ⟨fun _ _ => trivial, ?_⟩
  rw [Oper.semAt_eq _ _ _ hd]
  generalize (execOp a.eval o).run P w = r at h
  cases r with
  | ok x w' =>
    cases x <;> simp only [Oper.upon, Oper.uponIn] at h ⊢ <;>
      first
        | exact hn _ _ h
        | exact ⟨fun hh => (by simp [FW, Fence.wide] at hh), calls_in (h.mono (fun e w'' he => by cases e <;> first | exact hn _ _ he | exact he))⟩
        | exact ⟨fun hh => (by simp [FW, Fence.wide] at hh), rows_in (h.mono (fun _ _ he => hn _ _ he))⟩
  | halt x w' => cases x <;> simp only [Oper.upon, Oper.uponIn] at h ⊢ <;> exact h
theorem list_in (hL : ¬ LetsOut Q) : ∀ (rest : List Oper) (a : Act) (w : World), (∀ o ∈ rest, ∀ c, o.op ≠ .defer c) → wpList P ops Q rest a w → wpListIn (FW ρ) n P ops Q rest a w
  | [], a, w, _, h => h
  | o :: rest, a, w, hd, h => by
    unfold wpList at h; unfold wpListIn
    split
    · rename_i hw
      rw [if_pos hw] at h
      exact oper_in (hd o (by simp)) (fun a w h => list_in hL rest a w (fun o ho => hd o (by simp [ho])) h) (h.resolve_right (fun h2 => hL h2.2))
    · rename_i hw
      rw [if_neg hw] at h
      exact ⟨fun _ _ => trivial, list_in hL rest _ w (fun o ho => hd o (by simp [ho])) h⟩
theorem wp_region_litR {id : Nat} {ol : List Oper} (hd : plainB ol = true) (hL : ¬ LetsOut Q) (h : wpList P ol.toArray Q ol a w) : (Code.region id ol.toArray false).wpIn (FW ρ) n P Q a w :=
  wpIn_region_lit (list_in hL ol a w (plain_spec hd) h)
/-- Steps of a region in which a round is run. -/
theorem yq (v : Value) (hw : Region.wanted ⟨some d, op, ty, ps, af, gd⟩ (yielded ops (FrG D l).tmps) = true) (hd : ∀ c, op ≠ .defer c) (hr : (execOp (FrG D l).eval ⟨some d, op, ty, ps, af, gd⟩).run P W = .ok (.value v) W)
    (h : wpListIn (FW ρ) n P ops Q rest (FrG D (l.set d v)) W) : wpListIn (FW ρ) n P ops Q (⟨some d, op, ty, ps, af, gd⟩ :: rest) (FrG D l) W := by
  refine wpListIn_step fun K hK => ?_
  rw [if_pos hw]
  refine ⟨fun _ _ => trivial, ?_⟩
  rw [Oper.semAt_eq _ _ _ hd, hr]
  exact hK _ _ ((Fr_put l d v) ▸ h)
theorem yn (hw : Region.wanted ⟨some d, op, ty, ps, af, gd⟩ (yielded ops (FrG D l).tmps) = false)
    (h : wpListIn (FW ρ) n P ops Q rest (FrG D (l.set d undef)) W) : wpListIn (FW ρ) n P ops Q (⟨some d, op, ty, ps, af, gd⟩ :: rest) (FrG D l) W := by
  refine wpListIn_step fun K hK => ?_
  rw [if_neg (by rw [hw]; decide)]
  exact ⟨fun _ _ => trivial, hK _ _ ((Fr_put l d undef) ▸ h)⟩
theorem R_yield {x : Operand} {k : Nat} {as_ : Array Operand} {ts : Array TypeId} {dst : Option Nat} {r : Result Next} (args : Array Value) (hx : a.eval x = .func (.yield k) #[] #[]) (ha : as_.map a.eval = args) (hr : (Instr.yield k args).run P W = r) :
    (execOp a.eval ⟨dst, .call { callee := .value x, args := as_, argTypes := ts }, ty, ps, af, gd⟩).run P W = r := by
  subst hr
  simp [execOp, resolve, Deferred.ofValue, invoke, hx, ← ha]
theorem yy {x : Operand} {k m : Nat} {as_ : Array Operand} {ts : Array TypeId} (args : Array Value) {R : Ending → World → Prop} (hw : Region.wanted ⟨some d, .call { callee := .value x, args := as_, argTypes := ts }, ty, ps, af, gd⟩ (yielded ops (FrG D l).tmps) = true)
    (hx : (FrG D l).eval x = .func (.yield k) #[] #[]) (ha : as_.map (FrG D l).eval = args) (hy : YieldAt Fence.wide m P k args W R)
    (h : ∀ e W', R e W' → ∃ v, e = .returned v ∧ wpListIn (FW ρ) n P ops Q rest (FrG D (l.set d v)) W') : wpListIn (FW ρ) n P ops Q (⟨some d, .call { callee := .value x, args := as_, argTypes := ts }, ty, ps, af, gd⟩ :: rest) (FrG D l) W := by
  obtain ⟨fn, tmps, assign, body, hrun, hround⟩ := hy
  refine wpListIn_step fun K hK => ?_
  rw [if_pos hw]
  refine ⟨fun _ _ => trivial, ?_⟩
  rw [Oper.semAt_eq _ _ _ (by intro c h; cases h), R_yield args hx ha hrun]
  refine ⟨fun hh => (by simp [FW, Fence.wide] at hh), trivial, fun c cs _ => ?_⟩
  obtain ⟨e, w', hR, hs⟩ := hround.2 c cs (room_wide _)
  obtain ⟨v, rfl, hv⟩ := h e w' hR
  exact ⟨.returned v, w', hK _ _ ((Fr_put l d v) ▸ hv), hs⟩
/-! the entries, as cells -/
def Ent.cel (e : Ent) : Prop := ∀ W : World, e.P W → ∀ k, e.own k → ∃ o : Obj, W.heap[k]? = some o ∧ o.isCells = true
def cels (L : List Ent) : Prop := ∀ e ∈ L, e.cel
theorem cel_nil : cels [] := fun _ h => nomatch h
theorem cel_cons (h : e.cel) (hL : cels L) : cels (e :: L) := fun f hf => by
  rcases List.mem_cons.1 hf with rfl | hf
  · exact h
  · exact hL f hf
theorem blk_cel {g t : Nat} {cs : List Value} : (blk g cs t).cel := fun W p k hk => by
  have e : k = g := hk
  subst e
  exact ⟨_, p, rfl⟩
theorem row_cel {A : Option Addr} {n c t z : Nat} {cs : List Value} : (row A n c cs t z).cel := fun W p k hk => by
  rcases p.2 with ⟨e, _⟩ | ⟨g, cap, cur, e, hb, hg, rest⟩
  · cases e; cases hk
  · cases e
    have e2 : k = g := (by cases hk; rfl)
    subst e2
    exact ⟨_, hg, rfl⟩
theorem St.cells_ (HS : St W0 M W L) (hc : cels L) {k : Nat} (hk : owns L k) : ∃ o : Obj, W.heap[k]? = some o ∧ o.isCells = true := by
  obtain ⟨e, he, ho⟩ := hk
  exact hc e he W (HS.has e he).1 k ho
theorem St.grown (HS : St W0 M W L) (hc : cels L) (hB : W0.heap.size ≤ B) {r : Option Nat} (hg : W.grownBy W' r) (hr : ∀ k, r = some k → B ≤ k ∧ ∃ o : Obj, W.heap[k]? = some o ∧ o.isCells = false) : St W0 M W' L := by
  refine ⟨HS.kept.trans (Kpt.of_grown (M := fun k => r = some k) hg (fun _ h => h)) (fun k hk => .inr (by have := (hr k hk).1; omega)), fun e he => ⟨e.loc W W' (fun k ho => hg.block k ((HS.has e he).2 k ho).1 (fun h => ?_)) (HS.has e he).1, fun k ho => ⟨Nat.lt_of_lt_of_le ((HS.has e he).2 k ho).1 hg.size, ((HS.has e he).2 k ho).2⟩⟩, HS.ne⟩
  obtain ⟨_, o, h1, h2⟩ := hr k h.symm
  obtain ⟨o', h3, h4⟩ := HS.cells_ hc ⟨e, he, ho⟩
  rw [h1] at h3; cases h3; rw [h2] at h4; cases h4
theorem St.root (HS : St W0 M W L) : St W (owns L) W L := by
  have h : St W0 M W (L ++ []) := by rw [List.append_nil]; exact HS
  exact h.focus
theorem St.unroot (HS : St W0 M W L) (h : St W (owns L) W' G) : St W0 M W' G := by
  have h1 : St W0 M W (L ++ []) := by rw [List.append_nil]; exact HS
  have h2 := h1.join h
  rwa [List.append_nil] at h2
theorem St.keepsFrom (h : St W (owns L) W' G) (HS : St W0 M W L) (hc : cels L) (B : Nat) : KeepsFrom B W W' :=
  ⟨h.kept.size, fun k o _ hk ho => (h.kept.block k (Array.getElem?_eq_some_iff.1 hk).1 (fun hw => by
    obtain ⟨o', h3, h4⟩ := HS.cells_ hc hw
    rw [hk] at h3; cases h3; rw [ho] at h4; cases h4)).trans hk⟩
/-- The block for the deferred calls of a loop's rounds. -/
def dfr (D : Nat) : Ent := ⟨fun k => k = D, fun W => W.heap[D]? = some (.deferred (some [])), fun _ _ h p => (h D rfl).trans p⟩
theorem St.addD (HS : St W0 M W L) (hc : cels L) {D : Nat} (hD : W0.heap.size ≤ D) (h : W.heap[D]? = some (.deferred (some []))) : St W0 M W (dfr D :: L) := by
  refine ⟨HS.kept, fun e he => ?_, List.pairwise_cons.2 ⟨fun f hf k h1 h3 => ?_, HS.ne⟩⟩
  · rcases List.mem_cons.1 he with rfl | he
    · exact ⟨h, fun k hk => by cases (show k = D from hk); exact ⟨(Array.getElem?_eq_some_iff.1 h).1, .inr hD⟩⟩
    · exact HS.has e he
  · cases (show k = D from h1)
    obtain ⟨o, h4, h5⟩ := HS.cells_ hc ⟨f, hf, h3⟩
    rw [h] at h4; cases h4; cases h5
theorem St.dropD {E : Nat} (HS : St W0 M W (dfr E :: L)) : St W0 M (W.putObj E (.deferred none)) L := by
  have hD : W.heap[E]? = some (.deferred (some [])) := (HS.has _ (List.mem_cons_self)).1
  have hle := ((HS.has _ (List.mem_cons_self)).2 E rfl).2
  have hg := grownBy_putObj' W E (.deferred none)
  refine ⟨HS.kept.trans (Kpt.of_grown (M := fun k => k = E) hg (fun _ h => by cases h; rfl)) (fun k hk => by cases hk; exact hle), fun e he => ⟨e.loc _ _ (fun k ho => hg.block k ((HS.has e (List.mem_cons_of_mem _ he)).2 k ho).1 (fun h => ?_)) (HS.has e (List.mem_cons_of_mem _ he)).1, fun k ho => ⟨Nat.lt_of_lt_of_le ((HS.has e (List.mem_cons_of_mem _ he)).2 k ho).1 hg.size, ((HS.has e (List.mem_cons_of_mem _ he)).2 k ho).2⟩⟩, (List.pairwise_cons.1 HS.ne).2⟩
  have e2 : k = E := by cases h; rfl
  exact (List.pairwise_cons.1 HS.ne).1 e he k e2 ho
/-! a function that holds such a loop -/
/-- What such a function comes to, where it does not come to a panic. -/
def bodyPostN (P : Program) (fn : Func) (R : Ending → World → Prop) : Exit → Act → World → Prop
  | .normal, a, w => bodyPostM Fence.wide 0 P fn R .normal a w
  | .ret, a, w => bodyPostM Fence.wide 0 P fn R .ret a w
  | .outgrown, _, w => R .outgrown w
  | _, _, _ => False
theorem bodyPostN_M {P : Program} {fn : Func} {R : Ending → World → Prop} (e : Exit) (a : Act) (w : World) (h : bodyPostN P fn R e a w) : bodyPostM Fence.wide 0 P fn R e a w := by
  cases e with
  | normal => exact h
  | ret => exact h
  | outgrown => exact h
  | _ => exact h.elim
theorem calls_enterM {f : FuncId} {fn : Func} {c : Code} {args : Array Value} {R : Ending → World → Prop} (fl : List Value) (hf : P.funcs[f]? = some fn) (hb : fn.body = some c) (ha : (args.toList ++ List.replicate (fn.ntmps - args.size) undef) = fl)
    (h : c.wp P (bodyPostN P fn R) (Fr fl) w) : Calls P f args w R := by
  refine (callsIn_wide (n := 0)).1 (callsIn_of_wp_marks hf hb trivial ?_)
  have e : (args ++ Array.replicate (fn.ntmps - args.size) undef) = fl.toArray := by rw [← ha]; apply Array.ext'; simp
  rw [e]; exact wpIn_wide.2 (Code.wp_mono bodyPostN_M h)
theorem retM_ {fn : Func} {R : Ending → World → Prop} (v : Value) (hr : (results fn (Fr l).tmps).run P W = .ok v W) (h : R (.returned v) W) : bodyPostN P fn R .ret (Fr l) W := ⟨v, hr, h⟩
theorem retD_ {fn : Func} {R : Ending → World → Prop} {E : Nat} (HS : St W0 M W (dfr E :: L)) (h : ∀ W', St W0 M W' L → ∃ v, (results fn (FrG (some E) l).tmps).run P W' = .ok v W' ∧ R (.returned v) W') : bodyPostN P fn R .ret (FrG (some E) l) W :=
  ⟨by simp, .inl ⟨_, _, rfl, run_takeDeferred (HS.has _ (List.mem_cons_self)).1, h _ HS.dropD⟩⟩
theorem endD_ {fn : Func} {R : Ending → World → Prop} {E : Nat} (HS : St W0 M W (dfr E :: L)) (h : ∀ W', St W0 M W' L → ∃ v, (results fn (FrG (some E) l).tmps).run P W' = .ok v W' ∧ R (.returned v) W') : bodyPostN P fn R .normal (FrG (some E) l) W :=
  ⟨by simp, .inl ⟨_, _, rfl, run_takeDeferred (HS.has _ (List.mem_cons_self)).1, h _ HS.dropD⟩⟩
def encI : Int → Array Value := fun x => #[.int .i64 x]
/-- `for x := range g`: one variable, a whole number. -/
theorem rangeF {g : Operand} {t m : Nat} {assign body : Code} {fl : List Value} {gf : Nat} {lb : Array Value} {Kp : World → World → Prop} {S Sp : List Int → Prop} {N : Nat}
    (hg : (Fr fl).eval g = .func (.func gf) #[] lb) (eg : ∀ args w, (callFunc gf args).run P w = .ok (.enter gf args) w) (hseq : SeqStopsK Fence.wide m P gf lb encI Kp S Sp N W)
    (hKt : ∀ {A B C : World}, Kp A B → Kp B C → Kp A C) (hKb : ∀ (W1 : World) (l : Nat) (o o' : Obj), W.heap.size ≤ l → W1.heap[l]? = some o → o.isCells = false → o.isWalk = false → Kp W1 (W1.putObj l o'))
    (I : List Int → World → Prop) (Ix : Code → List Int → World → Prop) (hI : OwnFrom W.heap.size I) (hIx : ∀ c, OwnFrom W.heap.size (Ix c)) (h0 : I [] W) (a1 : Int → List Value)
    (ha : ∀ (l : Nat) (x : Int) (W1 : World) (K : Act → World → Prop), K (Fr (a1 x)) W1 → assign.wpIn (FW (some l)) (m - 1) P (Exit.then K (fun _ _ _ => False)) (Fr (fl.set t (.int .i64 x))) W1)
    (hb : ∀ (l : Nat) (pre : List Int) (x : Int) (W1 : World), I pre W1 → pre.length < N → body.wpIn (FW (some l)) (m - 1) P (ownPostG W.heap.size Kp I Ix (pre ++ [x]) W1) (Fr (a1 x)) W1)
    (hdone : ∀ (D : Nat) (xs : List Int) (W1 : World), W.heap.size ≤ D → S xs → I xs W1 → W1.heap[D]? = some (.deferred (some [])) → Q .normal (FrG (some D) fl) W1)
    (hstop : ∀ (D : Nat) (c : Code) (pre : List Int) (W1 : World), W.heap.size ≤ D → Sp pre → Ix c pre W1 → W1.heap[D]? = some (.deferred (some [])) → c.wp P Q (FrG (some D) fl) W1) :
    (Code.rangeFunc g #[t] assign body).wp P Q (Fr fl) W := by
  refine (wpIn_wide (n := m + 1)).1 (wpIn_rangeFunc_ownG (F := Fence.wide) rfl (Nat.le_add_left 1 m) hg trivial eg hseq (fun h k => hKt h k) hKb (Below.refl _ _) (fun _ => rfl) I Ix hI hIx h0 (fun x => Fr (a1 x)) ?_ hb hdone (fun D c pre W1 h1 h2 h3 h4 => wpIn_wide.2 (hstop D c pre W1 h1 h2 h3 h4)))
  intro l x W1 K hK
  have h := ha l x W1 K hK
  have e : ({ tmps := ((#[t] : Array Tmp).zip (encI x)).foldl (fun t (p, v) => t.setIfInBounds p v) (Fr fl).tmps, defers := [] } : Act) = Fr (fl.set t (.int .i64 x)) := by
    simp [encI, FrG, dfs]
  rw [e]; exact h
end
section
variable {P : Program} {W0 W W1 W2 : World} {M : Nat → Prop} {L G : List Ent} {B : Nat} {Kp : World → World → Prop} {I : List Int → World → Prop} {Ix : Code → List Int → World → Prop} {xs : List Int} {a : Act}
theorem kk_ {K : Act → World → Prop} {a b : Act} {W : World} (e : a = b) (h : K a W) : K b W := e ▸ h
theorem og_n (h1 : KeepsFrom B W W1) (h2 : Kp W W1) (h3 : I xs W1) : ownPostG B Kp I Ix xs W .normal a W1 := ⟨h1, h2, h3⟩
/-- What a round of one's own leaves as it was. -/
theorem St.belowR (HO : St W0 (owns []) W1 L) (HS : St W1 (owns L) W2 G) : Below W0.heap.size W1 W2 :=
  ⟨HS.kept.os, HS.kept.tape, HS.kept.output, HS.kept.size, fun k hk => by
    rcases Nat.lt_or_ge k W1.heap.size with h | h
    · refine HS.kept.block k h fun ⟨e, he, ho⟩ => ?_
      rcases ((HO.has e he).2 k ho).2 with h2 | h2
      · exact owns_nil _ h2
      · omega
    · have := HO.kept.size; omega⟩
theorem below_put {n l : Nat} (hl : n ≤ l) {o' : Obj} : Below n W (W.putObj l o') :=
  ⟨rfl, rfl, rfl, by simp, fun k hk => World.putObj_heap_other (by omega)⟩
theorem seq_later {F : Fence} {n g N : Nat} {lb : Array Value} {S Sp : List Int → Prop} (h : SeqStopsK F n P g lb encI Kp S Sp N W) (hb : Below W.heap.size W W1) : SeqStopsK F n P g lb encI Kp S Sp N W1 :=
  fun l J Jx V hV hJ hJx hY h0 => h l J Jx V (hb.trans (hV.mono hb.size)) hJ hJx hY h0
end

theorem wp_region_yield {P : Program} {Q : Exit → Act → World → Prop} {a : Act} {w : World} {id : Nat} {ol : List Oper} (h : wpListIn (FW none) 0 P ol.toArray Q ol a w) : (Code.region id ol.toArray false).wp P Q a w :=
  (wpIn_wide (n := 0)).1 (wpIn_region_lit h)
theorem St.grownBy0 {W0 W : World} {L : List Ent} (HS : St W0 (owns []) W L) : W0.grownBy W none :=
  ⟨HS.kept.os, HS.kept.tape, HS.kept.output, HS.kept.size, fun k hk _ => HS.kept.block k hk (owns_nil k)⟩
theorem nxt_first {L : List Int} (h0 : ∀ x ∈ L, 0 ≤ x) : nxt L 0 = L.head?.getD (-1) := by
  cases L with
  | nil => rfl
  | cons x xs => have := h0 x (by simp); unfold nxt; simp [this]
theorem nxt_after {pre rest : List Int} {x : Int} (hs : (pre ++ x :: rest).Pairwise (· < ·)) : nxt (pre ++ x :: rest) (x + 1) = rest.head?.getD (-1) := by
  have h1 : ∀ y ∈ pre, y < x := fun y hy => (List.pairwise_append.1 hs).2.2 y hy x (by simp)
  have h2 : ∀ y ∈ rest, x < y := (List.pairwise_cons.1 (List.pairwise_append.1 hs).2.1).1
  unfold nxt
  rw [List.find?_append, List.find?_eq_none.2 (fun y hy => by have := h1 y hy; simp; omega), Option.none_or, List.find?_cons_of_neg (by simp; omega)]
  cases rest with
  | nil => rfl
  | cons y ys => have := h2 y (by simp); rw [List.find?_cons_of_pos (by simp; omega)]; rfl
/-- What the iterator reads. -/
structure DnI (b g c : Nat) (A : Option Addr) (ws : List Int) (n : Int) (W : World) : Prop where
  hb : W.cell? ⟨b, 0, none⟩ = some (.pointer (some ⟨g, 0, none⟩))
  h0 : W.cell? ⟨g, 0, none⟩ = some (.slice A ws.length c)
  h1 : W.cell? ⟨g, 1, none⟩ = some (.int .i64 n)
  hr : Rd W A (ci .u64 ws)
/-! ### sets joined -/
def addI (a : List Int) (x : Int) : List Int := if x ∈ a then a else ins x a
def uni (L M : List Int) : List Int := M.foldl addI L
theorem mem_addI {a : List Int} {x y : Int} : y ∈ addI a x ↔ y = x ∨ y ∈ a := by
  unfold addI; split
  · exact ⟨.inr, fun h => h.elim (fun e => by subst e; assumption) id⟩
  · exact mem_ins
theorem mem_uni {M : List Int} : ∀ {L : List Int} {y : Int}, y ∈ uni L M ↔ y ∈ L ∨ y ∈ M := by
  induction M with
  | nil => intro L y; simp [uni]
  | cons x M ih =>
    intro L y
    show y ∈ uni (addI L x) M ↔ _
    rw [ih, mem_addI, List.mem_cons]
    constructor
    · rintro ((h | h) | h) <;> simp [h]
    · rintro (h | h | h) <;> simp [h]
theorem addI_sorted {a : List Int} {x : Int} (h : a.Pairwise (· < ·)) : (addI a x).Pairwise (· < ·) := by
  unfold addI; split
  · exact h
  · exact ins_sorted h (by assumption)
theorem uni_sorted {M : List Int} : ∀ {L : List Int}, L.Pairwise (· < ·) → (uni L M).Pairwise (· < ·) := by
  induction M with
  | nil => intro L h; exact h
  | cons x M ih => intro L h; exact ih (addI_sorted h)
theorem uni_snoc (L M : List Int) (x : Int) : uni L (M ++ [x]) = addI (uni L M) x := by simp [uni]
theorem or_zero {a b : Int} (ha : U64 a) (hb : U64 b) : orW a b = 0 ↔ a = 0 ∧ b = 0 := by
  constructor
  · intro h
    have hz : ∀ j, 0 ≤ j → j < 64 → (tb a j || tb b j) = false := fun j h0 h1 => by
      rw [← tb_or, h]; unfold tb; simp
    refine ⟨word_ext ha (u_lit 0 (by decide)) fun j h0 h1 => ?_, word_ext hb (u_lit 0 (by decide)) fun j h0 h1 => ?_⟩
    · have := hz j h0 h1; rw [Bool.or_eq_false_iff] at this; rw [this.1]; unfold tb; simp
    · have := hz j h0 h1; rw [Bool.or_eq_false_iff] at this; rw [this.2]; unfold tb; simp
  · rintro ⟨rfl, rfl⟩
    refine word_ext (u_or ha hb) (u_lit 0 (by decide)) fun j h0 h1 => ?_
    rw [tb_or]; unfold tb; simp
theorem an_zero {a b : Int} (ha : U64 a) (hb : U64 b) : anW a b = 0 ↔ ∀ j, 0 ≤ j → j < 64 → tb a j = true → tb b j = true := by
  constructor
  · intro h j h0 h1 ht
    have := tb_an (a := a) (b := b) h0 h1
    rw [h, ht] at this
    unfold tb at this ⊢
    simpa using this.symm
  · intro h
    refine word_ext (u_an ha hb) (u_lit 0 (by decide)) fun j h0 h1 => ?_
    rw [tb_an h0 h1]
    have h2 := h j h0 h1
    cases ha' : tb a j
    · unfold tb; simp
    · rw [h2 ha']; unfold tb; simp
/-- The words of two sets, joined up to one. -/
structure Jn (ws vs cur : List Int) (k ch : Int) : Prop where
  len : cur.length = ws.length
  lo : ∀ i : Int, 0 ≤ i → i < k → rdI cur i = orW (rdI ws i) (rdI vs i)
  hi : ∀ i : Int, k ≤ i → i < ws.length → rdI cur i = rdI ws i
  u : U64 ch
  ch0 : ch = 0 ↔ ∀ i : Int, 0 ≤ i → i < k → anW (rdI vs i) (rdI ws i) = 0
theorem Jn.zero (ws vs : List Int) : Jn ws vs ws 0 0 := ⟨rfl, fun i h0 h1 => by omega, fun _ _ _ => rfl, u_lit 0 (by decide), ⟨fun _ i h0 h1 => by omega, fun _ => rfl⟩⟩
theorem Jn.step {ws vs cur : List Int} {k ch : Int} (h : Jn ws vs cur k ch) (h0 : 0 ≤ k) (h1 : k < ws.length) (hu : U64 (rdI ws k)) (hv : U64 (rdI vs k)) :
    Jn ws vs (cur.set k.toNat (orW (rdI cur k) (rdI vs k))) (k + 1) (orW ch (anW (rdI vs k) (rdI cur k))) := by
  have hc := h.len
  have hk := h.hi k (by omega) h1
  rw [hk]
  refine ⟨by rw [List.length_set, hc], fun i hi0 hi1 => ?_, fun i hi0 hi1 => ?_, u_or h.u (u_an hv hu), ?_⟩
  · rw [rdW_set h0 (by omega) hi0]
    split
    · rename_i e; rw [e]
    · exact h.lo i hi0 (by omega)
  · rw [rdW_set h0 (by omega) (by omega), if_neg (by omega)]; exact h.hi i (by omega) hi1
  · rw [or_zero h.u (u_an hv hu), h.ch0]
    constructor
    · rintro ⟨ha, hb⟩ i hi0 hi1
      rcases Int.lt_or_eq_of_le (show i ≤ k by omega) with hlt | rfl
      · exact ha i hi0 hlt
      · exact hb
    · intro ha
      exact ⟨fun i hi0 hi1 => ha i hi0 (by omega), ha k h0 (by omega)⟩
theorem Rep.join {ws vs cur : List Int} {n ch : Int} {L M : List Int} (h : Rep ws n L) (h' : Rep vs n M) (hj : Jn ws vs cur ws.length ch) : Rep cur n (uni L M) ∧ (ch = 0 ↔ ∀ x ∈ M, x ∈ L) := by
  have hl := h.len
  have hl' := h'.len
  have hw : ∀ i : Int, 0 ≤ i → i < ws.length → rdI cur i = orW (rdI ws i) (rdI vs i) := fun i h0 h1 => hj.lo i h0 h1
  refine ⟨⟨by rw [hj.len]; exact hl, h.n0, fun w hw' => ?_, fun i h0 h1 => ?_, uni_sorted h.srt, fun x hx => (mem_uni.1 hx).elim (h.lim x) (h'.lim x)⟩, ?_⟩
  · obtain ⟨j, hj1, rfl⟩ := List.getElem_of_mem hw'
    have h2 := hj.len
    have e := rdI_eq (xs := cur) (i := (j : Int)) (by omega) (by omega)
    rw [Int.toNat_natCast, List.getElem?_eq_getElem hj1] at e
    rw [Option.some.inj e, hw j (by omega) (by omega)]
    exact u_or (h.rd (by omega) (by omega)) (h'.rd (by omega) (by omega))
  · have h2 := hj.len
    rw [h2] at h1
    unfold bitI
    rw [hw (i / 64) (by omega) (by omega), tb_or, Bool.or_eq_true, mem_uni]
    exact or_congr (h.mem i h0 h1) (h'.mem i h0 (by omega))
  · rw [hj.ch0]
    constructor
    · intro hz x hx
      have hx2 := h'.lim x hx
      have hz2 := (an_zero (h'.rd (by omega) (by omega)) (h.rd (by omega) (by omega))).1 (hz (x / 64) (by omega) (by omega)) (x % 64) (by omega) (by omega)
      exact (h.mem x hx2.1 (by omega)).1 (hz2 ((h'.mem x hx2.1 (by omega)).2 hx))
    · intro hs i h0 h1
      refine (an_zero (h'.rd (by omega) (by omega)) (h.rd (by omega) (by omega))).2 fun j hj0 hj1 ht => ?_
      have a1 := h'.mem (64 * i + j) (by omega) (by omega)
      have a2 := h.mem (64 * i + j) (by omega) (by omega)
      unfold bitI at a1 a2
      rw [show (64 * i + j) / 64 = i by omega, show (64 * i + j) % 64 = j by omega] at a1 a2
      exact a2.2 (hs _ (a1.1 ht))
/-- Is one of the second ones none of the first? -/
def newB (L M : List Int) : Bool := M.any fun x => decide (x ∉ L)
theorem newB_f {L M : List Int} (h : ∀ x ∈ M, x ∈ L) : newB L M = false := by
  unfold newB; rw [List.any_eq_false]; intro x hx; simp [h x hx]
theorem newB_t {L M : List Int} (h : ¬ ∀ x ∈ M, x ∈ L) : newB L M = true := by
  unfold newB; rw [List.any_eq_true]
  refine Classical.byContradiction fun hn => h fun x hx => ?_
  refine Classical.byContradiction fun hx2 => hn ⟨x, hx, by simp [hx2]⟩
/-- Up to there two rows are alike. -/
def eqTo (xs ys : List Int) (k : Int) : Prop := ∀ i : Int, 0 ≤ i → i < k → rdI xs i = rdI ys i
theorem eqTo_zero {xs ys : List Int} : eqTo xs ys 0 := fun i h0 h1 => by omega
theorem eqTo_step {xs ys : List Int} {k : Int} (h : eqTo xs ys k) (he : rdI xs k = rdI ys k) : eqTo xs ys (k + 1) := fun i h0 h1 => by
  rcases Int.lt_or_eq_of_le (show i ≤ k by omega) with hlt | rfl
  · exact h i h0 hlt
  · exact he
theorem eqTo_all {xs ys : List Int} (hl : xs.length = ys.length) (h : eqTo xs ys xs.length) : xs = ys := by
  refine List.ext_getElem hl fun j h1 h2 => ?_
  have e := h j (by omega) (by omega)
  have e1 := rdI_eq (xs := xs) (i := (j : Int)) (by omega) (by omega)
  have e2 := rdI_eq (xs := ys) (i := (j : Int)) (by omega) (by omega)
  rw [Int.toNat_natCast, List.getElem?_eq_getElem h1] at e1
  rw [Int.toNat_natCast, List.getElem?_eq_getElem h2] at e2
  rw [Option.some.inj e1, Option.some.inj e2, e]
theorem DnI.tail_ {b g c : Nat} {A : Option Addr} {ws : List Int} {n : Int} {W W' : World} (h : DnI b g c A ws n W) (hb : Below W.heap.size W W') : DnI b g c A ws n W' :=
  ⟨(hb.cell (World.block_lt_of_cell? W _ h.hb)).trans h.hb, (hb.cell (World.block_lt_of_cell? W _ h.h0)).trans h.h0, (hb.cell (World.block_lt_of_cell? W _ h.h1)).trans h.h1, h.hr.below hb⟩
theorem DnI.put {b g c : Nat} {A : Option Addr} {ws : List Int} {n : Int} {W : World} {l : Nat} {o o' : Obj} (h : DnI b g c A ws n W) (hl : W.heap[l]? = some o) (ho : o.isCells = false) : DnI b g c A ws n (W.putObj l o') := by
  have key : ∀ {p : Addr} {v : Value}, W.cell? p = some v → (W.putObj l o').cell? p = some v := fun {p v} hp => by
    obtain ⟨o2, h2, h3⟩ := cells_of_cell hp
    refine (World.cell?_of_block (World.putObj_heap_other (fun e => ?_))).trans hp
    rw [e, hl] at h2; cases h2; rw [ho] at h3; cases h3
  exact ⟨key h.hb, key h.h0, key h.h1, fun j v hv => let ⟨ad, e, hc⟩ := h.hr j v hv; ⟨ad, e, key hc⟩⟩
/-! ### the document's sets -/
theorem drop_at2 {xs : List Int} {i : Int} (h0 : 0 ≤ i) (h1 : i < xs.length) : xs.drop i.toNat = rdI xs i :: xs.drop (i + 1).toNat := by
  have h := rdI_eq h0 h1
  rw [List.getElem?_eq_getElem (by omega)] at h
  rw [List.drop_eq_getElem_cons (show i.toNat < xs.length by omega), Option.some.inj h, show (i + 1).toNat = i.toNat + 1 by omega]
def addL (n : Int) (L : List Int) (i : Int) : List Int := if 0 ≤ i ∧ i < n ∧ i ∉ L then ins i L else L
def addB (n : Int) (L : List Int) (i : Int) : Bool := decide (0 ≤ i ∧ i < n ∧ i ∉ L)
theorem addL_out {n i : Int} {L : List Int} (h : i < 0 ∨ n ≤ i ∨ i ∈ L) : addL n L i = L ∧ addB n L i = false :=
  ⟨if_neg (fun ⟨a, b, c⟩ => by rcases h with h | h | h; omega; omega; exact c h), decide_eq_false (fun ⟨a, b, c⟩ => by rcases h with h | h | h; omega; omega; exact c h)⟩
theorem addL_in {n i : Int} {L : List Int} (h0 : 0 ≤ i) (h1 : i < n) (h2 : i ∉ L) : addL n L i = ins i L ∧ addB n L i = true := ⟨if_pos ⟨h0, h1, h2⟩, decide_eq_true ⟨h0, h1, h2⟩⟩
theorem addL_lim {n i : Int} {L : List Int} (h0 : 0 ≤ i) (h1 : i < n) : addL n L i = addI L i ∧ addB n L i = decide (i ∉ L) := by
  unfold addL addB addI
  by_cases h : i ∈ L
  · rw [if_neg (fun hh => hh.2.2 h), if_pos h, decide_eq_false (fun hh => hh.2.2 h)]; simp [h]
  · rw [if_pos ⟨h0, h1, h⟩, if_neg h, decide_eq_true ⟨h0, h1, h⟩]; simp [h]
theorem ins_len (i : Int) (L : List Int) : (ins i L).length = L.length + 1 := by
  induction L with
  | nil => rfl
  | cons x xs ih => unfold ins; split <;> simp [ih]
theorem addL_len (n i : Int) (L : List Int) : (addL n L i).length ≤ L.length + 1 := by
  unfold addL; split
  · rw [ins_len]; exact Nat.le_refl _
  · omega
theorem ins_cons (i x : Int) (xs : List Int) : ins i (x :: xs) = if i < x then i :: x :: xs else x :: ins i xs := rfl
/-- What has been put so far, i among it or not yet. -/
def InsP (i : Int) (L out : List Int) (k : Int) (put : Bool) : Prop := out ++ (if put then L.drop k.toNat else ins i (L.drop k.toNat)) = ins i L ∧ (out.length : Int) = k + (if put then 1 else 0)
theorem insP_start (i : Int) (L : List Int) : InsP i L [] 0 false := ⟨by simp, rfl⟩
theorem insP_gt {i k : Int} {L out : List Int} (h : InsP i L out k false) (h0 : 0 ≤ k) (h1 : k < L.length) (hx : rdI L k > i) : InsP i L (out ++ [i] ++ [rdI L k]) (k + 1) true := by
  obtain ⟨h2, h3⟩ := h
  rw [if_neg (by decide), drop_at2 h0 h1] at h2
  rw [ins_cons, if_pos (show i < rdI L k from hx)] at h2
  refine ⟨?_, ?_⟩
  · rw [← h2]; simp
  · simp only [List.length_append, List.length_singleton]; simp at h3; simp; omega
theorem insP_le {i k : Int} {L out : List Int} (h : InsP i L out k false) (h0 : 0 ≤ k) (h1 : k < L.length) (hx : ¬ rdI L k > i) : InsP i L (out ++ [rdI L k]) (k + 1) false := by
  obtain ⟨h2, h3⟩ := h
  rw [if_neg (by decide), drop_at2 h0 h1] at h2
  rw [ins_cons, if_neg (show ¬ i < rdI L k from hx)] at h2
  refine ⟨?_, ?_⟩
  · rw [if_neg (by decide), List.append_assoc]; exact h2
  · simp only [List.length_append, List.length_singleton]; simp at h3; simp; omega
theorem insP_put {i k : Int} {L out : List Int} (h : InsP i L out k true) (h0 : 0 ≤ k) (h1 : k < L.length) : InsP i L (out ++ [rdI L k]) (k + 1) true := by
  obtain ⟨h2, h3⟩ := h
  rw [if_pos rfl, drop_at2 h0 h1] at h2
  refine ⟨?_, ?_⟩
  · rw [if_pos rfl, List.append_assoc]; exact h2
  · simp only [List.length_append, List.length_singleton]; simp at h3; simp; omega
theorem insP_end {i k : Int} {L out : List Int} (h : InsP i L out k true) (hk : k = L.length) : out = ins i L := by
  have h2 := h.1
  rw [if_pos rfl, hk, Int.toNat_natCast, List.drop_length, List.append_nil] at h2; exact h2
theorem insP_end0 {i k : Int} {L out : List Int} (h : InsP i L out k false) (hk : k = L.length) : out ++ [i] = ins i L := by
  have h2 := h.1
  rw [if_neg (by decide), hk, Int.toNat_natCast, List.drop_length] at h2; exact h2
theorem addI_len (a : List Int) (x : Int) : (addI a x).length ≤ a.length + 1 := by
  unfold addI; split
  · omega
  · rw [ins_len]; exact Nat.le_refl _
theorem uni_len : ∀ (M L : List Int), (uni L M).length ≤ L.length + M.length
  | [], L => by simp [uni]
  | x :: M, L => by
    have h1 := uni_len M (addI L x)
    have h2 := addI_len L x
    show (uni (addI L x) M).length ≤ _
    simp only [List.length_cons]; omega
/-- Joined so far. -/
def UniP (L M cur : List Int) (ch : Bool) (k : Int) : Prop := cur = uni L (M.take k.toNat) ∧ ch = newB L (M.take k.toNat)
theorem uniP_start (L M : List Int) : UniP L M L false 0 := by simp [UniP, uni, newB]
theorem uniP_step {n k : Int} {L M cur : List Int} {ch : Bool} (h : UniP L M cur ch k) (hs : M.Pairwise (· < ·)) (hl : ∀ x ∈ M, 0 ≤ x ∧ x < n) (h0 : 0 ≤ k) (h1 : k < M.length) :
    UniP L M (addL n cur (rdI M k)) (ch || addB n cur (rdI M k)) (k + 1) := by
  obtain ⟨rfl, rfl⟩ := h
  have hx := hl (rdI M k) (List.mem_of_getElem? (rdI_eq h0 h1))
  have hnt : rdI M k ∉ M.take k.toNat := fun hm => by
    have e : M = M.take k.toNat ++ (rdI M k :: M.drop (k + 1).toNat) := by rw [← drop_at2 h0 h1, List.take_append_drop]
    rw [e] at hs
    have h2 := (List.pairwise_append.1 hs).2.2 _ hm (rdI M k) (by simp)
    omega
  obtain ⟨e1, e2⟩ := addL_lim (L := uni L (M.take k.toNat)) hx.1 hx.2
  rw [e1, e2]
  refine ⟨by rw [take_rd h0 h1, uni_snoc], ?_⟩
  rw [take_rd h0 h1]
  unfold newB
  rw [List.any_append]
  congr 1
  simp only [List.any_cons, List.any_nil, Bool.or_false]
  refine decide_eq_decide.2 (not_congr ?_)
  rw [mem_uni]
  exact ⟨fun h => h.resolve_right hnt, .inl⟩
theorem uniP_end {L M cur : List Int} {ch : Bool} {k : Int} (h : UniP L M cur ch k) (hk : k = M.length) : cur = uni L M ∧ ch = newB L M := by
  unfold UniP at h; rw [hk, Int.toNat_natCast, List.take_length] at h; exact h
theorem uniP_len {L M cur : List Int} {ch : Bool} {k : Int} (h : UniP L M cur ch k) : cur.length ≤ L.length + M.length := by
  rw [h.1]; have := uni_len (M.take k.toNat) L; rw [List.length_take] at this; omega
theorem no_take {L : List Int} {i k : Int} (h : i ∉ L.take k.toNat) (h0 : 0 ≤ k) (h1 : k < L.length) (hx : ¬ rdI L k = i) : i ∉ L.take (k + 1).toNat := by
  rw [take_rd h0 h1, List.mem_append, List.mem_singleton]; rintro (h2 | h2)
  · exact h h2
  · exact hx h2.symm
theorem mem_rd {L : List Int} {k : Int} (h0 : 0 ≤ k) (h1 : k < L.length) : rdI L k ∈ L := List.mem_of_getElem? (rdI_eq h0 h1)
section
variable {P : Program} {ops : Array Oper} {Q : Exit → Act → World → Prop} {N : Nat → Prop} {D : Option Nat} {l : List Value} {V W W' : World} {op : Op} {ty : TypeId} {ps : String} {af : Array Edge} {gd : Option (Nat × Bool)} {n : Nat} {ls : Array Bool}
theorem t_pick3 (i j k : Nat) (hr : Region.ready .any ops ls = [i, j, k]) (hi : wpOp P ops Q i (fun a' w' => Kpt N V w' ∧ TA P ops Q N V n (ls.setIfInBounds i true) a' w') (FrG D l) W) (hj : wpOp P ops Q j (fun a' w' => Kpt N V w' ∧ TA P ops Q N V n (ls.setIfInBounds j true) a' w') (FrG D l) W) (hk : wpOp P ops Q k (fun a' w' => Kpt N V w' ∧ TA P ops Q N V n (ls.setIfInBounds k true) a' w') (FrG D l) W) : TA P ops Q N V (n + 1) ls (FrG D l) W :=
  wpAnyH_all hr (by simp) (fun m hm => by
    rcases List.mem_cons.1 hm with rfl | hm
    · exact hi
    · rcases List.mem_cons.1 hm with rfl | hm
      · exact hj
      · rw [List.mem_singleton] at hm; subst hm; exact hk)
theorem t_c2 {d : Nat} (i : Nat) {f : FuncId} {args : Array Value} (hi : ops[i]? = some ⟨some d, op, ty, ps, af, gd⟩) (hw : Region.wanted ⟨some d, op, ty, ps, af, gd⟩ (yielded ops (FrG D l).tmps) = true)
    (hrun : (execOp (FrG D l).eval ⟨some d, op, ty, ps, af, gd⟩).run P W = .ok (.enter f args) W) (h : Calls P f args W fun e w' => ∃ v, e = .returned v ∧ Kpt N V w' ∧ TA P ops Q N V n (ls.setIfInBounds i true) (FrG D (l.set d v)) w') : wpOp P ops Q i (fun a' w' => Kpt N V w' ∧ TA P ops Q N V n (ls.setIfInBounds i true) a' w') (FrG D l) W := by
  unfold wpOp; rw [hi]; simp only; rw [if_pos hw]
  left; unfold Oper.wp; rw [hrun]
  refine h.mono ?_
  rintro e w' ⟨v, rfl, hk, hv⟩
  exact ⟨hk, (Fr_put l d v) ▸ hv⟩
end
theorem St.oldSep {W0 V : World} {L : List Ent} (HS : St W0 (owns []) V L) {i : Nat} {e : Ent} (hi : L[i]? = some e) {p : Addr} {v : Value} (hc : W0.cell? p = some v) : ¬ e.own p.block := fun ho => by
  have h1 := ((HS.has e (List.mem_of_getElem? hi)).2 _ ho).2
  have h2 := World.block_lt_of_cell? W0 p hc
  exact h1.elim (owns_nil _) (fun h3 => by omega)
theorem bne_same (b : Bool) : (b != b) = false := by cases b <;> rfl
theorem beq_same (b : Bool) : (b == b) = true := by cases b <;> rfl

/-! ### what an argument reads as: a row that is read -/
section
variable {P : Program} {w : World} {H : Type} {enc : TypeId × Value → H} {base : Nat} {spare : Nat → Bool} {held : Bool} {fuel : Nat} {t e : TypeId} {cs : List Value} {x : DataW H × List MemPlace}
theorem rd_of {β : Type} {f : β → List Value} {z : Nat} (hz : 0 < z) (hd : ∀ y, (f y).length = z) {a : Addr} {good : β → Prop} (len : Nat) (h : ∀ i, i < len → ∃ y, good y ∧ ∀ j u, (f y)[j]? = some u → w.cell? (a.add (i * z + j)) = some u) :
    ∃ l : List β, l.length = len ∧ Rd w (some a) (cf f l) ∧ ∀ y ∈ l, good y := by
  have hex : ∃ l : List β, l.length = len ∧ ∀ i y, l[i]? = some y → good y ∧ ∀ j u, (f y)[j]? = some u → w.cell? (a.add (i * z + j)) = some u := by
    induction len with
    | zero => exact ⟨[], rfl, fun i y hy => by simp at hy⟩
    | succ len ih =>
      obtain ⟨l, hl, hp⟩ := ih (fun i hi => h i (by omega))
      obtain ⟨y, hy⟩ := h len (by omega)
      refine ⟨l ++ [y], by simp [hl], fun i q hq => ?_⟩
      rcases Nat.lt_or_ge i l.length with hi | hi
      · rw [List.getElem?_append_left hi] at hq
        exact hp i q hq
      · rw [List.getElem?_append_right hi] at hq
        have hi0 : i - l.length = 0 := by have := (List.getElem?_eq_some_iff.1 hq).1; simp at this; omega
        rw [hi0] at hq
        simp only [List.getElem?_cons_zero, Option.some.injEq] at hq
        subst hq
        have : i = len := by omega
        subst this
        exact hy
  obtain ⟨l, hl, hp⟩ := hex
  refine ⟨l, hl, fun j v hv => ⟨a, rfl, ?_⟩, fun y hy => ?_⟩
  · have hj := (List.getElem?_eq_some_iff.1 hv).1
    rw [cf_len hd] at hj
    have hq : j / z < l.length := (Nat.div_lt_iff_lt_mul hz).2 hj
    have e2 : j = j / z * z + j % z := (Nat.div_add_mod' j z).symm
    rw [e2, cf_rd hd l (j / z) (j % z) l[j / z] (List.getElem?_eq_getElem hq) (Nat.mod_lt _ hz)] at hv
    rw [e2]
    exact (hp _ _ (List.getElem?_eq_getElem hq)).2 _ _ hv
  · obtain ⟨i, hi, rfl⟩ := List.getElem_of_mem hy
    exact (hp i _ (List.getElem?_eq_getElem hi)).1
theorem open_row {β : Type} {f : β → List Value} {good : β → Prop} (hu : P.underlying t = some (.slice e)) (z : Nat) (hz : 0 < z) (hc : P.cellsOf e = z) (hd : ∀ y, (f y).length = z)
    (h : ∀ (n : Nat) (cs : List Value) (x : DataW H × List MemPlace), cs.length = z → DataW.trod enc P w base spare held n e cs = some x → ∃ y, good y ∧ cs = f y)
    (hx : DataW.trod enc P w base spare held fuel t cs = some x) : ∃ (l : List β) (A : Option Addr) (c : Nat), cs = [.slice A l.length c] ∧ Rd w A (cf f l) ∧ ∀ y ∈ l, good y := by
  rcases Deep.open_slice hu hx with ⟨rfl, _⟩ | ⟨a, len, cap, m, n, D, Pl, rfl, hb, hl, hm, hmm, hxx, hel⟩
  · exact ⟨[], none, 0, rfl, fun j v hv => by simp [cf] at hv, fun y hy => nomatch hy⟩
  · have hlm : len ≤ m := by rw [hmm]; split <;> omega
    obtain ⟨l, h1, h2, h3⟩ := rd_of (f := f) (good := good) (w := w) (a := a) hz hd len (fun i hi => by
      obtain ⟨cs', g1, g2⟩ := hel i (by omega)
      obtain ⟨_, hlen, hcell⟩ := World.cells?_some g1
      obtain ⟨y, hy, rfl⟩ := h n cs' _ (by rw [hlen, hc]) g2
      refine ⟨y, hy, fun j u hu2 => ?_⟩
      have hj := (List.getElem?_eq_some_iff.1 hu2).1
      have := hcell j (by omega)
      rw [Deep.add_add, hc] at this
      rw [this, hu2])
    exact ⟨l, some a, cap, by rw [h1], h2, h3⟩
theorem open_triples_ {k : IntKind} {e1 : TypeId} {fs : Array Field} {f0 f1 f2 : Field} (hu : P.underlying t = some (.slice e)) (he : P.underlying e = some (.struct fs)) (hf0 : fs[0]? = some f0) (hf1 : fs[1]? = some f1) (hf2 : fs[2]? = some f2) (ht0 : f0.type = e1) (ht1 : f1.type = e1) (ht2 : f2.type = e1) (ho0 : f0.offset = 0) (ho1 : f1.offset = 1) (ho2 : f2.offset = 2) (hs : fs.size = 3)
    (hi : P.underlying e1 = some (.int k)) (hc1 : P.cellsOf e1 = 1) (hc : P.cellsOf e = 3) (hx : DataW.trod enc P w base spare held fuel t cs = some x) :
    ∃ (l : List (Int × Int × Int)) (A : Option Addr) (c : Nat), cs = [.slice A l.length c] ∧ Rd w A (cf (fun y => [Value.int k y.1, Value.int k y.2.1, Value.int k y.2.2]) l) ∧ ∀ y ∈ l, (Lit.int k y.1).wf = true ∧ (Lit.int k y.2.1).wf = true ∧ (Lit.int k y.2.2).wf = true := by
  refine open_row (f := fun y : Int × Int × Int => [Value.int k y.1, Value.int k y.2.1, Value.int k y.2.2]) (good := fun y : Int × Int × Int => (Lit.int k y.1).wf = true ∧ (Lit.int k y.2.1).wf = true ∧ (Lit.int k y.2.2).wf = true) hu 3 (by decide) hc (fun _ => rfl) (fun n cs x hl ht => ?_) hx
  obtain ⟨xs, m, rfl, _, hln, hxs, hf⟩ := DataW.trod_struct he ht
  have a0 := hf 0 f0 hf0
  have a1 := hf 1 f1 hf1
  have a2 := hf 2 f2 hf2
  rw [List.getElem?_eq_getElem (by omega), ht0, ho0, hc1] at a0
  rw [List.getElem?_eq_getElem (by omega), ht1, ho1, hc1] at a1
  rw [List.getElem?_eq_getElem (by omega), ht2, ho2, hc1] at a2
  obtain ⟨y0, c0, _, w0⟩ := DataW.trod_int hi a0
  obtain ⟨y1, c1, _, w1⟩ := DataW.trod_int hi a1
  obtain ⟨y2, c2, _, w2⟩ := DataW.trod_int hi a2
  match cs, hl with
  | [u, v, q], _ =>
    simp only [List.drop_zero, List.take_succ_cons, List.take_zero, List.drop_succ_cons, List.cons.injEq, and_true] at c0 c1 c2
    exact ⟨(y0, y1, y2), ⟨w0, w1, w2⟩, by rw [c0, c1, c2]⟩
end

/-! ### many entries as one -/
theorem rd_of_rowP {A : Option Addr} {n c t z : Nat} {cs : List Value} {W : World} (h : (row A n c cs t z).P W) : Rd W A cs := by
  rcases h.2 with ⟨e, h2⟩ | ⟨g, cap, cur, e, _⟩
  · intro j v hv
    have := h.1
    rw [h2, Nat.zero_mul] at this
    rw [List.eq_nil_of_length_eq_zero this] at hv; simp at hv
  · intro j v hv
    cases e
    exact ⟨_, rfl, h.cells rfl j v hv⟩
theorem cell_of_blkP {g t : Nat} {cs : List Value} {W : World} (h : (blk g cs t).P W) {j : Nat} {v : Value} (hv : cs[j]? = some v) : W.cell? ⟨g, j, none⟩ = some v := by
  rw [cell_of_row W g j cs.toArray t (0, 0) h]
  simpa using hv
def dj (e f : Ent) : Prop := ∀ k, e.own k → ¬ f.own k
theorem dj_symm {e f : Ent} (h : dj e f) : dj f e := fun k h1 h2 => h k h2 h1
def many (F : List Ent) : Ent := ⟨fun k => ∃ e ∈ F, e.own k, fun W => (∀ e ∈ F, e.P W) ∧ F.Pairwise dj, fun W W' h p => ⟨fun e he => e.loc W W' (fun k ho => h k ⟨e, he, ho⟩) (p.1 e he), p.2⟩⟩
section
variable {W0 W : World} {M : Nat → Prop} {L F F1 F2 E : List Ent}
theorem St.openM (h : St W0 M W (many (F1 ++ E ++ F2) :: L)) : St W0 M W (E ++ many (F1 ++ F2) :: L) := by
  have hm := h.has _ (List.mem_cons_self)
  have hP := hm.1
  have hmem : ∀ e, e ∈ E → e ∈ F1 ++ E ++ F2 := fun e he => by simp [he]
  have hmem2 : ∀ e, e ∈ F1 ++ F2 → e ∈ F1 ++ E ++ F2 := fun e he => by rcases List.mem_append.1 he with h | h <;> simp [h]
  have hp := hP.2
  obtain ⟨p1, p2, p3⟩ := List.pairwise_append.1 hp
  obtain ⟨q1, q2, q3⟩ := List.pairwise_append.1 p1
  have hne := List.pairwise_cons.1 h.ne
  have hEF : ∀ e ∈ E, ∀ f ∈ F1 ++ F2, dj e f := fun e he f hf => by
    rcases List.mem_append.1 hf with hf | hf
    · exact dj_symm (q3 f hf e he)
    · exact p3 e (by simp [he]) f hf
  refine ⟨h.kept, fun e he => ?_, List.pairwise_append.2 ⟨q2, List.pairwise_cons.2 ⟨fun f hf k h1 h2 => ?_, hne.2⟩, fun e he f hf k h1 h2 => ?_⟩⟩
  · rcases List.mem_append.1 he with he | he
    · exact ⟨hP.1 e (hmem e he), fun k hk => hm.2 k ⟨e, hmem e he, hk⟩⟩
    · rcases List.mem_cons.1 he with rfl | he
      · exact ⟨⟨fun f hf => hP.1 f (hmem2 f hf), List.pairwise_append.2 ⟨q1, p2, fun a ha b hb => p3 a (by simp [ha]) b hb⟩⟩, fun k ⟨f, hf, hk⟩ => hm.2 k ⟨f, hmem2 f hf, hk⟩⟩
      · exact h.has e (List.mem_cons_of_mem _ he)
  · obtain ⟨e, he, hk⟩ := h1
    exact hne.1 f hf k ⟨e, hmem2 e he, hk⟩ h2
  · rcases List.mem_cons.1 hf with rfl | hf
    · obtain ⟨f, hf, hk⟩ := h2
      exact hEF e he f hf k h1 hk
    · exact hne.1 f hf k ⟨e, hmem e he, h1⟩ h2
theorem St.closeM (h : St W0 M W (E ++ many (F1 ++ F2) :: L)) : St W0 M W (many (F1 ++ E ++ F2) :: L) := by
  obtain ⟨p1, p2, p3⟩ := List.pairwise_append.1 h.ne
  obtain ⟨q1, q2⟩ := List.pairwise_cons.1 p2
  have hm := h.has (many (F1 ++ F2)) (by simp)
  obtain ⟨r1, r2, r3⟩ := List.pairwise_append.1 hm.1.2
  have hEF : ∀ e ∈ E, ∀ f ∈ F1 ++ F2, dj e f := fun e he f hf k h1 h2 => p3 e he (many (F1 ++ F2)) (by simp) k h1 ⟨f, hf, h2⟩
  have hall : ∀ e ∈ F1 ++ E ++ F2, e.P W ∧ ∀ k, e.own k → k < W.heap.size ∧ (M k ∨ W0.heap.size ≤ k) := fun e he => by
    have hc : e ∈ E ∨ e ∈ F1 ++ F2 := by
      rcases List.mem_append.1 he with he | he
      · rcases List.mem_append.1 he with he | he
        · exact .inr (by simp [he])
        · exact .inl he
      · exact .inr (by simp [he])
    rcases hc with hc | hc
    · exact h.has e (by simp [hc])
    · exact ⟨hm.1.1 e hc, fun k hk => hm.2 k ⟨e, hc, hk⟩⟩
  refine ⟨h.kept, fun e he => ?_, List.pairwise_cons.2 ⟨fun f hf k h1 h2 => ?_, q2⟩⟩
  · rcases List.mem_cons.1 he with rfl | he
    · refine ⟨⟨fun e he => (hall e he).1, List.pairwise_append.2 ⟨List.pairwise_append.2 ⟨r1, p1, fun a ha b hb => dj_symm (hEF b hb a (by simp [ha]))⟩, r2, fun a ha b hb => ?_⟩⟩, fun k ⟨e, he, hk⟩ => (hall e he).2 k hk⟩
      rcases List.mem_append.1 ha with ha | ha
      · exact r3 a ha b hb
      · exact hEF a ha b (by simp [hb])
    · exact h.has e (by simp [he])
  · obtain ⟨e, he, hk⟩ := h1
    rcases List.mem_append.1 he with he | he
    · rcases List.mem_append.1 he with he | he
      · exact q1 f hf k ⟨e, by simp [he], hk⟩ h2
      · exact p3 e he f (by simp [hf]) k hk h2
    · exact q1 f hf k ⟨e, by simp [he], hk⟩ h2
theorem St.nilM (h : St W0 M W L) : St W0 M W (many [] :: L) :=
  ⟨h.kept, fun e he => by
    rcases List.mem_cons.1 he with rfl | he
    · exact ⟨⟨fun e he => (nomatch he), .nil⟩, fun k ⟨e, he, _⟩ => (nomatch he)⟩
    · exact h.has e he, List.pairwise_cons.2 ⟨fun f hf k ⟨e, he, _⟩ => (nomatch he), h.ne⟩⟩
end
/-! ### rows of sets -/
abbrev Rw := Option (Nat × Option Addr × Nat × List Int)
def cpt (x : Rw) : List Value := [.pointer (x.map fun y => ⟨y.1, 0, none⟩)]
def rsE1 (ts tu : Nat) (cols : Int) : Rw → List Ent
  | none => []
  | some y => [blk y.1 [.slice y.2.1 y.2.2.2.length y.2.2.1, .int .i64 cols] ts, row y.2.1 y.2.2.2.length y.2.2.1 (ci .u64 y.2.2.2) tu 1]
def rsE (ts tu : Nat) (cols : Int) (rs : List Rw) : List Ent := rs.flatMap (rsE1 ts tu cols)
section
variable {W0 W : World} {M : Nat → Prop} {L : List Ent} {ts tu : Nat} {cols : Int} {rs : List Rw} {k : Nat}
/-- What can be read of a matrix. -/
structure Mr (W : World) (g : Nat) (R : Option Addr) (cr : Nat) (cols : Int) (rs : List Rw) : Prop where
  h0 : W.cell? ⟨g, 0, none⟩ = some (.slice R rs.length cr)
  h1 : W.cell? ⟨g, 1, none⟩ = some (.int .i64 cols)
  hr : Rd W R (cf cpt rs)
  hs : ∀ y, some y ∈ rs → W.cell? ⟨y.1, 0, none⟩ = some (.slice y.2.1 y.2.2.2.length y.2.2.1) ∧ W.cell? ⟨y.1, 1, none⟩ = some (.int .i64 cols) ∧ Rd W y.2.1 (ci .u64 y.2.2.2)
theorem Mr.old0 {g cr : Nat} {R : Option Addr} (h : Mr W0 g R cr cols rs) (HS : St W0 (owns []) W L) : Mr W g R cr cols rs :=
  ⟨HS.old0 h.h0, HS.old0 h.h1, h.hr.old0 HS, fun y hy => ⟨HS.old0 (h.hs y hy).1, HS.old0 (h.hs y hy).2.1, (h.hs y hy).2.2.old0 HS⟩⟩
theorem Mr.of (HS : St W0 M W L) {i j m g cr t t2 : Nat} {R : Option Addr} (hi : L[i]? = some (blk g [.slice R rs.length cr, .int .i64 cols] t)) (hj : L[j]? = some (row R rs.length cr (cf cpt rs) t2 1)) (hm : L[m]? = some (many (rsE ts tu cols rs))) : Mr W g R cr cols rs := by
  refine ⟨HS.cell (j := 0) hi rfl, HS.cell (j := 1) hi rfl, Rd.row HS hj, fun y hy => ?_⟩
  have hP := (HS.get hm).1
  have a1 := hP (blk y.1 [.slice y.2.1 y.2.2.2.length y.2.2.1, .int .i64 cols] ts) (List.mem_flatMap.2 ⟨some y, hy, by simp [rsE1]⟩)
  have a2 := hP (row y.2.1 y.2.2.2.length y.2.2.1 (ci .u64 y.2.2.2) tu 1) (List.mem_flatMap.2 ⟨some y, hy, by simp [rsE1]⟩)
  exact ⟨cell_of_blkP a1 (j := 0) rfl, cell_of_blkP a1 (j := 1) rfl, rd_of_rowP a2⟩
end
def mget (rs : List Rw) (r : Int) : Rw := if 0 ≤ r ∧ r < rs.length then rs.getD r.toNat none else none
def rowL (Ls : List (List Int)) (r : Int) : List Int := if 0 ≤ r ∧ r < Ls.length then Ls.getD r.toNat [] else []
structure MRep (rs : List Rw) (cols : Int) (Ls : List (List Int)) : Prop where
  len : rs.length = Ls.length
  c0 : 0 ≤ cols
  at_ : ∀ (r : Nat) (x : Rw) (L : List Int), rs[r]? = some x → Ls[r]? = some L → match x with | none => L = [] | some y => Rep y.2.2.2 cols L
theorem mget_some {rs : List Rw} {r : Int} {y} (h : mget rs r = some y) : 0 ≤ r ∧ r < rs.length ∧ rs[r.toNat]? = some (some y) := by
  unfold mget at h
  split at h
  · rename_i hc
    refine ⟨hc.1, hc.2, ?_⟩
    rw [List.getD_eq_getElem?_getD, List.getElem?_eq_getElem (by omega), Option.getD_some] at h
    rw [List.getElem?_eq_getElem (by omega), h]
  · cases h
theorem mget_in {rs : List Rw} {r : Int} (h0 : 0 ≤ r) (h1 : r < rs.length) : rs[r.toNat]? = some (mget rs r) := by
  unfold mget; rw [if_pos ⟨h0, h1⟩, List.getD_eq_getElem?_getD, List.getElem?_eq_getElem (by omega), Option.getD_some]
theorem rowL_in {Ls : List (List Int)} {r : Int} (h0 : 0 ≤ r) (h1 : r < Ls.length) : Ls[r.toNat]? = some (rowL Ls r) := by
  unfold rowL; rw [if_pos ⟨h0, h1⟩, List.getD_eq_getElem?_getD, List.getElem?_eq_getElem (by omega), Option.getD_some]
theorem rowL_out {Ls : List (List Int)} {r : Int} (h : r < 0 ∨ (Ls.length : Int) ≤ r) : rowL Ls r = [] := if_neg (by omega)
namespace MRep
variable {rs : List Rw} {cols : Int} {Ls : List (List Int)} {r : Int}
theorem some_ (h : MRep rs cols Ls) {y} (hx : mget rs r = some y) : Rep y.2.2.2 cols (rowL Ls r) := by
  obtain ⟨h0, h1, h2⟩ := mget_some hx
  have hl := h.len
  exact h.at_ r.toNat _ _ h2 (rowL_in h0 (by omega))
theorem none_ (h : MRep rs cols Ls) (hx : mget rs r = none) : rowL Ls r = [] := by
  have hl := h.len
  by_cases hc : 0 ≤ r ∧ r < rs.length
  · exact h.at_ r.toNat none _ (hx ▸ mget_in hc.1 hc.2) (rowL_in hc.1 (by omega))
  · exact rowL_out (by omega)
theorem lim (h : MRep rs cols Ls) : ∀ x ∈ rowL Ls r, 0 ≤ x ∧ x < cols := by
  intro x hx
  cases hm : mget rs r with
  | none => rw [h.none_ hm] at hx; cases hx
  | some y => exact (h.some_ hm).lim x hx
theorem srt (h : MRep rs cols Ls) : (rowL Ls r).Pairwise (· < ·) := by
  cases hm : mget rs r with
  | none => rw [h.none_ hm]; exact .nil
  | some y => exact (h.some_ hm).srt
theorem set_ (h : MRep rs cols Ls) {y} {L : List Int} (hy : Rep y.2.2.2 cols L) : MRep (rs.set r.toNat (some y)) cols (Ls.set r.toNat L) := by
  refine ⟨by rw [List.length_set, List.length_set]; exact h.len, h.c0, fun k x L' hx hL => ?_⟩
  rw [List.getElem?_set] at hx hL
  have hl := h.len
  split at hx
  · rename_i e
    subst e
    rw [if_pos rfl] at hL
    split at hx
    · cases hx
      rw [if_pos (by omega)] at hL; cases hL
      exact hy
    · cases hx
  · rename_i e
    rw [if_neg e] at hL
    exact h.at_ k x L' hx hL
theorem zero {n : Nat} (hc : 0 ≤ cols) : MRep (List.replicate n none) cols (List.replicate n []) := by
  refine ⟨by simp, hc, fun k x L hx hL => ?_⟩
  rw [List.getElem?_replicate] at hx hL
  split at hx
  · rename_i e; rw [if_pos e] at hL; cases hx; cases hL; rfl
  · cases hx
end MRep
theorem three_at {W : World} {g o : Nat} {u v w : Value} (h0 : W.cell? ⟨g, o, none⟩ = some u) (h1 : W.cell? ⟨g, o + 1, none⟩ = some v) (h2 : W.cell? ⟨g, o + 2, none⟩ = some w) : ∀ j x, [u, v, w][j]? = some x → W.cell? ((⟨g, o, none⟩ : Addr).add j) = some x := fun j x hx => by
  have e : ∀ k, (⟨g, o, none⟩ : Addr).add k = ⟨g, o + k, none⟩ := fun k => by unfold Addr.add; split <;> simp_all
  rw [e]
  match j, hx with
  | 0, hx => cases hx; exact h0
  | 1, hx => cases hx; exact h1
  | 2, hx => cases hx; exact h2
  | j + 3, hx => simp at hx

/-! ### a ringS of whole numbers -/
def ringS (bs : List ByteArray) (f n : Nat) : List ByteArray := (List.range n).map fun i => bs.getD ((f + i) % bs.length) ByteArray.empty
structure RQS (bs : List ByteArray) (f n : Nat) (xs : List ByteArray) : Prop where
  hn : n ≤ bs.length
  hf : 0 < bs.length → f < bs.length
  h0 : bs.length = 0 → f = 0
  hb : bs.length ≤ 4398046511104
  hx : xs = ringS bs f n
theorem RQS.len {bs xs : List ByteArray} {f n : Nat} (h : RQS bs f n xs) : xs.length = n := by rw [h.hx]; unfold ringS; simp
theorem RQS.nil : RQS [] 0 0 [] := ⟨Nat.le_refl _, fun h => by simp at h, fun _ => rfl, by simp, rfl⟩
/-! ### a map or none; what is only read, of a block of its own -/
theorem rd_cut {W : World} {A : Option Addr} {c m : Nat} {cs : List Value} (h : Rd W A cs) (hm : m ≤ c) (hl : cs.length ≤ c) : Rd W (cutA A c m 1) (cs.drop m) := by
  intro j v hv
  have hlt := (List.getElem?_eq_some_iff.1 hv).1
  rw [List.length_drop] at hlt
  rw [List.getElem?_drop] at hv
  obtain ⟨ad, e, hc⟩ := h _ v hv
  unfold cutA
  rw [if_neg (by omega), e]
  exact ⟨_, rfl, by rw [Nat.mul_one, add_add_]; exact hc⟩
/-- Read from elsewhere: whatever is done within M. -/
def RdF (M : Nat → Prop) (W : World) (B : Option Addr) (cs : List Value) : Prop := ∀ W2 L2, St W M W2 L2 → Rd W2 B cs
theorem RdF.old0 {M : Nat → Prop} {W W2 : World} {L2 : List Ent} {B : Option Addr} {cs : List Value} (h : RdF M W B cs) (HS : St W M W2 L2) : Rd W2 B cs := h W2 L2 HS
theorem RdF.of_row {W0 W : World} {M : Nat → Prop} {F L : List Ent} {i n c t z : Nat} {B : Option Addr} {cs : List Value} (HS : St W0 M W (F ++ L)) (hi : L[i]? = some (row B n c cs t z)) : RdF (owns F) W B cs := fun W2 L2 H2 j v hv => by
  have hm := List.mem_of_getElem? hi
  obtain ⟨ad, e, hc⟩ := Rd.row HS (i := F.length + i) (by rw [List.getElem?_append_right (by omega), Nat.add_sub_cancel_left]; exact hi) j v hv
  refine ⟨ad, e, H2.kept.cellN (fun ⟨f, hf, ho⟩ => ?_) hc⟩
  have hne := (List.pairwise_append.1 HS.ne).2.2 f hf _ hm _ ho
  apply hne
  have hb : (ad.add j).block = ad.block := by unfold Addr.add; split <;> rfl
  rw [hb]
  rcases (HS.has _ (List.mem_append_right _ hm)).1.2 with ⟨h9, _⟩ | ⟨g, cap, cur, h9, _⟩
  · cases h9; cases e
  · cases h9; cases e; rfl
/-! ### a row's whole block: what stands behind its length, too -/
section
variable {P : Program} {ops : Array Oper} {Q : Exit → Act → World → Prop} {R : Act → Prop} {rest : List Oper} {a : Act} {D : Option Nat} {l : List Value} {W W' W0 : World} {M : Nat → Prop} {L : List Ent} {v : Value} {op : Op} {d : Nat} {ty : TypeId} {ps : String} {af : Array Edge} {gd : Option (Nat × Bool)} {dst : Option Nat}
theorem St.openRow (HS : St W0 M W L) {i g n c t : Nat} {cs : List Value} (hi : L[i]? = some (row (some ⟨g, 0, none⟩) n c cs t 1)) :
    ∃ sp : List Value, n + sp.length = c ∧ cs.length = n ∧ St W0 M W (L.set i (blk g (cs ++ sp) t)) := by
  have hr := HS.rowE hi
  rcases hr.2 with ⟨e, _⟩ | ⟨g', cap, cur, e, hb, hg, h1, h2, h3, h4⟩
  · cases e
  · cases e
    have hl : cs.length = n := by rw [hr.1, Nat.mul_one]
    rw [Nat.mul_one] at h4 h3
    refine ⟨cur.toList.drop n, by simp; omega, hl, HS.turn hi (fun _ => ?_) (fun k hk => by cases hk; rfl)⟩
    show W.heap[g]? = _
    rw [← h4, List.take_append_drop]
    simpa using hg
theorem St.closeRow (HS : St W0 M W L) {i g t : Nat} {cs : List Value} (hi : L[i]? = some (blk g cs t)) (n c : Nat) (xs : List Value) (hc : cs.length = c) (hx : cs.take n = xs) (hn : n ≤ c) (hm : c ≤ maxLen) :
    St W0 M W (L.set i (row (some ⟨g, 0, none⟩) n c xs t 1)) := by
  subst hc hx
  exact HS.turn hi (fun p => ⟨by rw [List.length_take]; omega, .inr ⟨g, cs.length, cs.toArray, rfl, Nat.zero_le _, p, hn, hm, by simp, by simp⟩⟩) (fun k hk => by have : some g = some k := hk; cases this; rfl)
theorem R_copy {t t2 : TypeId} {s x : Operand} {u v : Value} {r : Value} (hs : a.eval s = u) (hx : a.eval x = v) (h : (Builtin.copy_ #[t, t2] ty #[u, v]).run P W = .ok r W') :
    (execOp a.eval ⟨dst, .call { callee := .builtin .copy, args := #[s, x], argTypes := #[t, t2] }, ty, ps, af, gd⟩).run P W = .ok (.value r) W' := by
  simp [execOp, resolve, invoke, builtin, hs, hx, h]
/-- copy onto a block of one's own. -/
theorem kcpy {t t2 e : TypeId} {s x : Operand} (HS : St W0 M W L) (i : Nat) {g o n c m c2 tb : Nat} {cs xs : List Value} {ad : Addr} (hi : L[i]? = some (blk g cs tb))
    (hw : Region.wanted ⟨some d, .call { callee := .builtin .copy, args := #[s, x], argTypes := #[t, t2] }, ty, ps, af, gd⟩ (yielded ops (FrG D l).tmps) = true)
    (hs : (FrG D l).eval s = .slice (some ⟨g, o, none⟩) n c) (hx : (FrG D l).eval x = .slice (some ad) m c2) (ht : P.underlying t = some (.slice e)) (hz : (P.info? e).map (·.size) = some 1)
    (cs' : List Value) (hn : xs.length = Nat.min m n) (hsrc : ∀ j v, xs[j]? = some v → W.cell? (ad.add j) = some v) (hfit : o + xs.length ≤ cs.length) (h1 : ∀ v ∈ xs, v.oneCell' = true) (hc : cs.take o ++ xs ++ cs.drop (o + xs.length) = cs')
    (h : ∀ W', St W0 M W' (L.set i (blk g cs' tb)) → wpList P ops Q rest (FrG D (l.set d (.int .i64 (xs.length : Nat)))) W') :
    wpList P ops Q (⟨some d, .call { callee := .builtin .copy, args := #[s, x], argTypes := #[t, t2] }, ty, ps, af, gd⟩ :: rest) (FrG D l) W := by
  have hr := run_copy_row (P := P) W t t2 ty e g o n c ad m c2 cs.toArray tb xs ht hz (HS.blkE hi) hn hsrc (by simpa using hfit) h1
  rw [hc] at hr
  exact qw _ hw (R_copy hs hx hr) (h _ (HS.setBlk hi))
theorem R_append2 {t t2 : TypeId} {s x : Operand} {u v : Value} {r : Value} (hs : a.eval s = u) (hx : a.eval x = v) (h : (Builtin.append_ #[t, t2] ty #[u, v]).run P W = .ok r W') :
    (execOp a.eval ⟨dst, .call { callee := .builtin .append, args := #[s, x], argTypes := #[t, t2] }, ty, ps, af, gd⟩).run P W = .ok (.value r) W' := by
  simp [execOp, resolve, invoke, builtin, hs, hx, h]
/-- append of a make: a new block. -/
theorem kaz {t t2 e : TypeId} {kn : IntKind} {s x : Operand} (HS : St W0 M W L) (i : Nat) {g n c k by_ tb : Nat} {cs : List Value} {z : Value} (hi : L[i]? = some (blk g cs tb))
    (hw : Region.wanted ⟨some d, .call { callee := .builtin .append, args := #[s, x], argTypes := #[t, t2] }, ty, ps, af, gd⟩ (yielded ops (FrG D l).tmps) = true)
    (hs : (FrG D l).eval s = .slice (some ⟨g, 0, none⟩) n c) (hx : (FrG D l).eval x = .int .i64 (k : Int)) (ht : P.underlying t = some (.slice e)) (ht2 : P.underlying t2 = some (.int kn)) (hz : (P.info? e).bind (·.zero) = some z) (hzc : z.cells = #[z]) (hsz : (P.info? e).map (·.size) = some 1) (hb : (P.info? e).map (·.bytes) = some by_)
    (N : Nat) (hN : n + k = N) (hn : n ≤ cs.length) (h0 : 0 < k) (hg : c < n + k) (h63 : n + k ≤ 140737488355327) (hbytes : (n + k) * by_ ≤ 140737488355328)
    (h : ∀ g' c' W', N ≤ c' → c' ≤ maxLen → St W0 M W' (blk g' (cs.take n ++ (List.replicate k z ++ List.replicate (c' - N) z)) e :: L) → wpList P ops Q rest (FrG D (l.set d (.slice (some ⟨g', 0, none⟩) N c'))) W') :
    wpList P ops Q (⟨some d, .call { callee := .builtin .append, args := #[s, x], argTypes := #[t, t2] }, ty, ps, af, gd⟩ :: rest) (FrG D l) W := by
  subst hN
  obtain ⟨ti, hti, hts⟩ : ∃ ti, P.info? e = some ti ∧ ti.size = 1 := by
    cases hq : P.info? e with
    | none => rw [hq] at hsz; cases hsz
    | some ti => rw [hq] at hsz; exact ⟨ti, rfl, by simpa using hsz⟩
  have hb' : ti.bytes = by_ := by rw [hti] at hb; simpa using hb
  have hz' : ti.zero = some z := by rw [hti] at hz; simpa using hz
  have hzc2 : ∀ q, Builtin.zeroCells z.cells q = (List.replicate q z).toArray := fun q => by
    rw [hzc]
    apply Array.ext
    · simp [Builtin.zeroCells]
    · intro i h1 h2
      simp [Builtin.zeroCells, Nat.mod_one]
  have hold : (Builtin.firstCells ti.size n (.slice (some ⟨g, 0, none⟩) n c)).run P W.drew = .ok (cs.take n).toArray W.drew := by
    refine run_firstCells_some (P := P) W.drew ti.size n ⟨g, 0, none⟩ n c (cs.take n) (by rw [List.length_take, hts]; omega) (fun j v hj => ?_)
    have hv : cs[j]? = some v := by
      rw [List.getElem?_take] at hj; split at hj
      · exact hj
      · cases hj
    have := HS.cell hi hv
    rwa [show (⟨g, 0, none⟩ : Addr).add j = ⟨g, j, none⟩ by unfold Addr.add; split <;> simp_all]
  have h48 : k * ti.bytes ≤ 281474976710656 := by
    have : k * by_ ≤ (n + k) * by_ := Nat.mul_le_mul_right _ (by omega)
    rw [hb']; omega
  have hr := Lib.run_append_grow_zeros (P := P) W t t2 ty e ti z .i64 kn ht ht2 hti hz' (some ⟨g, 0, none⟩) n c (cs.take n) hold k h0 (by omega) hg (by omega) h48 (growslice_fits hg (by rw [hb']; exact hbytes))
  obtain ⟨G, hG⟩ : ∃ G, G = grownCap W (n + k) c e := ⟨_, rfl⟩
  have hge := grownCap_ge W (n + k) c e
  have hle := grownCap_le_maxLen W (n + k) c e (by unfold maxLen; omega)
  rw [← hG] at hr hge hle
  rw [hzc2, hzc2] at hr
  have hS := (HS.drew (W.drawn + 1)).newBlk (cs.take n ++ (List.replicate k z ++ List.replicate (G - (n + k)) z)) e
  have hcc : (cs.take n).toArray ++ (List.replicate k z).toArray ++ (List.replicate (G - (n + k)) z).toArray = (cs.take n ++ (List.replicate k z ++ List.replicate (G - (n + k)) z)).toArray := by simp
  rw [hcc] at hr
  exact qw _ hw (R_append2 hs hx hr) (h _ G _ hge hle hS)
/-- Do a slice of one cell and a row of another block overlap? -/
theorem R_apart {f : FuncId} {fn : Func} {as_ : Array Operand} {ts : Array TypeId} {tS tR e : TypeId} (args : Array Value) (hf : P.funcs[f]? = some fn) (hn : (fn.name == "runtime.NumGoroutine") = false) (hb : fn.body.isNone = true) (hn2 : Extern.findNext fn = none) (he : Extern.find fn = some (Extern.SlicesOverlaps.overlaps #[tS, tS] #[tR])) (ha : as_.map a.eval = args)
    {x b : Addr} {la ca lb cb tA tB : Nat} {cs ds : List Value} (hargs : args = #[.slice (some x) la ca, .slice (some b) lb cb]) (ht : P.underlying tS = some (.slice e)) (hz : (P.info? e).map (·.size) = some 1)
    (hx : W.heap[x.block]? = some (.cells cs.toArray tA (0, 0))) (hy : W.heap[b.block]? = some (.cells ds.toArray tB (0, 0))) (hne : x.block ≠ b.block) (hd : ds ≠ []) :
    (execOp a.eval ⟨dst, .call { callee := .value (.func f), args := as_, argTypes := ts }, ty, ps, af, gd⟩).run P W = .ok (.value (.bool false)) W := by
  have e1 := Conc.execOp_call_func (a := a) (o := ⟨dst, .call { callee := .value (.func f), args := as_, argTypes := ts }, ty, ps, af, gd⟩) rfl
  rw [e1, run_callFunc_extern hf hn hb hn2 he, ha, hargs]
  rw [Lib.run_overlaps_apart W tS tR e ht 1 (fun w => run_sizeOf hz) x b la ca lb cb hne tA tB cs.length ds.length (by simp [World.shape?, hx]) (by simp [World.shape?, hy]) (by cases ds with | nil => exact absurd rfl hd | cons _ _ => simp) (by simp [World.frozen?, hx]) (by simp [World.frozen?, hx])]
  rfl
theorem cutA_at {g c k : Nat} (h : k < c) : cutA (some ⟨g, 0, none⟩) c k 1 = some ⟨g, k, none⟩ := by
  unfold cutA; rw [if_neg (by omega)]; simp [Addr.add_lit]
theorem St.rowBlk (HS : St W0 M W L) {i g n t : Nat} {cs : List Value} (hi : L[i]? = some (row (some ⟨g, 0, none⟩) n n cs t 1)) : St W0 M W (L.set i (blk g cs t)) := by
  obtain ⟨sp, h1, h2, h3⟩ := HS.openRow hi
  have : sp = [] := List.eq_nil_of_length_eq_zero (by omega)
  subst this
  rwa [List.append_nil] at h3
end
def insA {α : Type} (L : List α) (k : Nat) (x : α) : List α := L.take k ++ x :: L.drop k
theorem insA_len {α : Type} {L : List α} {k : Nat} {x : α} (h : k ≤ L.length) : (insA L k x).length = L.length + 1 := by unfold insA; simp; omega
theorem tk_app {α : Type} {A B : List α} {n : Nat} (h : A.length = n) : (A ++ B).take n = A := by subst h; simp
theorem dr_app {α : Type} {A B : List α} {n : Nat} (h : A.length = n) : (A ++ B).drop n = B := by subst h; simp
theorem grow_eq {C Z : List Value} {x : Value} {K : Nat} (h : K ≤ C.length) (hZ : C.length + 1 ≤ K + Z.length) :
    ∃ B1 B2 : List Value, (C.take K ++ Z).take K ++ [x] ++ (C.take K ++ Z).drop (K + 1) = B1 ∧ B1.take (K + 1) ++ C.drop K ++ B1.drop (K + 1 + (C.drop K).length) = B2 ∧ B1.length = K + Z.length ∧ B2.length = K + Z.length ∧ B2.take (C.length + 1) = insA C K x := by
  have e1 : (C.take K).length = K := by rw [List.length_take]; omega
  refine ⟨_, _, rfl, rfl, by simp; omega, by simp; omega, ?_⟩
  have e2 : ((C.take K ++ Z).take K ++ [x] ++ (C.take K ++ Z).drop (K + 1)).take (K + 1) = C.take K ++ [x] := by
    rw [tk_app (by simp; omega), tk_app e1]
  rw [e2, tk_app (by simp; omega)]
  unfold insA; simp
theorem shift_eq {C sp : List Value} {x : Value} {K : Nat} (h : K < C.length) (hs : 0 < sp.length) :
    ∃ B1 B2 : List Value, (C ++ sp).take (K + 1) ++ C.drop K ++ (C ++ sp).drop (K + 1 + (C.drop K).length) = B1 ∧ B1.take K ++ [x] ++ B1.drop (K + 1) = B2 ∧ B1.length = C.length + sp.length ∧ B2.length = C.length + sp.length ∧ B2.take (C.length + 1) = insA C K x := by
  refine ⟨_, _, rfl, rfl, by simp; omega, by simp; omega, ?_⟩
  have e0 : (C ++ sp).take (K + 1) = C.take K ++ [C[K]] := by rw [List.take_append_of_le_length (by omega), List.take_succ_eq_append_getElem h]
  have e1 : (C.take K).length = K := by rw [List.length_take]; omega
  rw [e0]
  have e2 : ∀ R : List Value, (C.take K ++ [C[K]] ++ C.drop K ++ R).take K = C.take K := fun R => by rw [List.append_assoc, List.append_assoc, tk_app e1]
  have e3 : ∀ R : List Value, (C.take K ++ [C[K]] ++ C.drop K ++ R).drop (K + 1) = C.drop K ++ R := fun R => by rw [List.append_assoc (C.take K ++ [C[K]]), dr_app (by simp; omega)]
  rw [e2, e3, ← List.append_assoc, tk_app (by simp; omega)]
  unfold insA; simp
theorem src_drop {C sp : List Value} {k j : Nat} {v : Value} (h : (C.drop k)[j]? = some v) : (C ++ sp)[k + j]? = some v := by
  rw [List.getElem?_drop] at h
  rw [List.getElem?_append_left (List.getElem?_eq_some_iff.1 h).1]; exact h
theorem St.blkNe {W0 W : World} {M : Nat → Prop} {L : List Ent} (HS : St W0 M W L) {i j g h t u : Nat} {cs ds : List Value} (hi : L[i]? = some (blk g cs t)) (hj : L[j]? = some (blk h ds u)) (hij : i < j) : h ≠ g := fun e => by
  obtain ⟨h1, e1⟩ := List.getElem?_eq_some_iff.1 hi
  obtain ⟨h2, e2⟩ := List.getElem?_eq_some_iff.1 hj
  have := List.pairwise_iff_getElem.1 HS.ne i j h1 h2 hij g
  rw [e1, e2] at this
  exact this rfl e.symm
theorem ci_insA (k : IntKind) (L : List Int) (n : Nat) (x : Int) : ci k (insA L n x) = insA (ci k L) n (.int k x) := by unfold insA ci; simp [List.map_take, List.map_drop]
/-! ### a few numbers, rising -/
def rk (L : List Int) (x : Int) : Int := ((L.filter fun y => decide (y < x)).length : Nat)
def BsP (L : List Int) (x i j : Int) : Prop := 0 ≤ i ∧ i ≤ j ∧ j ≤ L.length ∧ (∀ y ∈ L.take i.toNat, y < x) ∧ (∀ y ∈ L.drop j.toNat, x ≤ y)
theorem rk_ge {L : List Int} {x : Int} (h : ∀ y ∈ L, x ≤ y) : rk L x = 0 := by
  unfold rk
  rw [List.filter_eq_nil_iff.2 (fun y hy => by have := h y hy; simp; omega)]; rfl
theorem rk_0 (L : List Int) (x : Int) : 0 ≤ rk L x := by unfold rk; omega
theorem rk_le (L : List Int) (x : Int) : rk L x ≤ L.length := by unfold rk; have := List.length_filter_le (fun y => decide (y < x)) L; omega
theorem rk_cons (a : Int) (L : List Int) (x : Int) : rk (a :: L) x = (if a < x then 1 else 0) + rk L x := by
  unfold rk
  by_cases h : a < x
  · rw [List.filter_cons_of_pos (by simpa using h), if_pos h]; simp; omega
  · rw [List.filter_cons_of_neg (by simpa using h), if_neg h]; omega
theorem rk_split {L : List Int} {x : Int} (hs : L.Pairwise (· < ·)) : (∀ y ∈ L.take (rk L x).toNat, y < x) ∧ (∀ y ∈ L.drop (rk L x).toNat, x ≤ y) := by
  induction L with
  | nil => exact ⟨fun y hy => by simp at hy, fun y hy => by simp at hy⟩
  | cons a L ih =>
    obtain ⟨h1, h2⟩ := List.pairwise_cons.1 hs
    obtain ⟨i1, i2⟩ := ih h2
    by_cases ha : a < x
    · have h0 := rk_0 L x
      rw [rk_cons, if_pos ha, show (1 + rk L x).toNat = (rk L x).toNat + 1 by omega]
      refine ⟨fun y hy => ?_, fun y hy => i2 y (by simpa using hy)⟩
      rw [List.take_succ_cons, List.mem_cons] at hy
      rcases hy with rfl | hy
      · exact ha
      · exact i1 y hy
    · have hall : ∀ y ∈ a :: L, x ≤ y := fun y hy => by
        rcases List.mem_cons.1 hy with rfl | hy
        · omega
        · have := h1 y hy; omega
      rw [rk_ge hall]
      exact ⟨fun y hy => by simp at hy, fun y hy => hall y (by simpa using hy)⟩
theorem rk_at {L : List Int} {x i : Int} (h : BsP L x i i) : rk L x = i := by
  obtain ⟨h0, _, h1, h2, h3⟩ := h
  have e : L = L.take i.toNat ++ L.drop i.toNat := (List.take_append_drop _ _).symm
  unfold rk
  rw [e, List.filter_append, List.length_append, List.filter_eq_self.2 (fun y hy => by have := h2 y hy; simpa using this), List.filter_eq_nil_iff.2 (fun y hy => by have := h3 y hy; simp; omega)]
  simp; omega
theorem bs_start (L : List Int) (x : Int) : BsP L x 0 L.length := ⟨by omega, by omega, by omega, fun y hy => by simp at hy, fun y hy => by simp at hy⟩
theorem bs_mid {i j : Int} (h0 : 0 ≤ i) (h : i < j) : i ≤ (i + j) / 2 ∧ (i + j) / 2 < j := by omega
theorem bs_right {L : List Int} {x i j h : Int} (hp : BsP L x i j) (hs : L.Pairwise (· < ·)) (h0 : i ≤ h) (h1 : h < j) (hx : rdI L h < x) : BsP L x (h + 1) j := by
  obtain ⟨a, b, c, d, e⟩ := hp
  refine ⟨by omega, by omega, c, fun y hy => ?_, e⟩
  obtain ⟨q, hq, rfl⟩ := List.getElem_of_mem hy
  rw [List.length_take] at hq
  have hqL : q < L.length := by omega
  have hhL : h.toNat < L.length := by omega
  rw [List.getElem_take]
  have e1 := rdI_eq (xs := L) (i := h) (by omega) (by omega)
  rw [List.getElem?_eq_getElem hhL] at e1
  have e2 : L[h.toNat] = rdI L h := Option.some.inj e1
  rcases Nat.lt_or_ge q h.toNat with hl | hl
  · have := List.pairwise_iff_getElem.1 hs q h.toNat hqL hhL hl
    omega
  · have : q = h.toNat := by omega
    subst this; omega
theorem bs_left {L : List Int} {x i j h : Int} (hp : BsP L x i j) (hs : L.Pairwise (· < ·)) (h0 : i ≤ h) (h1 : h < j) (hx : ¬ rdI L h < x) : BsP L x i h := by
  obtain ⟨a, b, c, d, e⟩ := hp
  refine ⟨a, h0, by omega, d, fun y hy => ?_⟩
  obtain ⟨q, hq, rfl⟩ := List.getElem_of_mem hy
  rw [List.length_drop] at hq
  have hhL : h.toNat < L.length := by omega
  rw [List.getElem_drop]
  have e1 := rdI_eq (xs := L) (i := h) (by omega) (by omega)
  rw [List.getElem?_eq_getElem hhL] at e1
  have e2 : L[h.toNat] = rdI L h := Option.some.inj e1
  rcases Nat.eq_zero_or_pos q with hl | hl
  · subst hl; simp only [Nat.add_zero]; omega
  · have := List.pairwise_iff_getElem.1 hs h.toNat (h.toNat + q) hhL (by omega) (by omega)
    omega
theorem bs_has {L : List Int} {x i : Int} (h : BsP L x i i) (hs : L.Pairwise (· < ·)) (h1 : i < L.length) : x ∈ L ↔ rdI L i = x := by
  obtain ⟨h0, _, _, h2, h3⟩ := h
  refine ⟨fun hx => ?_, fun hx => hx ▸ mem_rd h0 h1⟩
  have ed := drop_at2 h0 h1
  have e : L = L.take i.toNat ++ L.drop i.toNat := (List.take_append_drop _ _).symm
  rw [e, List.mem_append] at hx
  rcases hx with hx | hx
  · have := h2 x hx; omega
  · have hp : (L.drop i.toNat).Pairwise (· < ·) := hs.sublist (List.drop_sublist _ _)
    rw [ed] at hx hp
    rcases List.mem_cons.1 hx with hx | hx
    · exact hx.symm
    · have h4 := (List.pairwise_cons.1 hp).1 x hx
      have h5 := h3 (rdI L i) (by rw [ed]; simp)
      omega
theorem bs_hasN {L : List Int} {x i : Int} (h : BsP L x i i) (h1 : ¬ i < L.length) : x ∉ L := fun hx => by
  obtain ⟨h0, _, h4, h2, h3⟩ := h
  rw [List.take_of_length_le (by omega)] at h2
  have := h2 x hx; omega
theorem ins_at {L : List Int} {x : Int} (hs : L.Pairwise (· < ·)) (hx : x ∉ L) : L.take (rk L x).toNat ++ x :: L.drop (rk L x).toNat = ins x L := by
  obtain ⟨h1, h2⟩ := rk_split (x := x) hs
  have e : L = L.take (rk L x).toNat ++ L.drop (rk L x).toNat := (List.take_append_drop _ _).symm
  have hm : ∀ y, y ∈ L ↔ y ∈ L.take (rk L x).toNat ∨ y ∈ L.drop (rk L x).toNat := fun y => by rw [← List.mem_append, ← e]
  have hp := hs
  rw [e, List.pairwise_append] at hp
  refine sorted_ext (List.pairwise_append.2 ⟨hp.1, List.pairwise_cons.2 ⟨fun y hy => ?_, hp.2.1⟩, fun a ha b hb => ?_⟩) (ins_sorted hs hx) fun y => ?_
  · have h3 := h2 y hy
    have : y ≠ x := fun e2 => hx ((hm x).2 (.inr (e2 ▸ hy)))
    omega
  · rcases List.mem_cons.1 hb with rfl | hb
    · exact h1 a ha
    · exact hp.2.2 a ha b hb
  · rw [mem_ins, hm, List.mem_append, List.mem_cons]
    constructor
    · rintro (h | h | h)
      · exact .inr (.inl h)
      · exact .inl h
      · exact .inr (.inr h)
    · rintro (h | h | h)
      · exact .inr (.inl h)
      · exact .inl h
      · exact .inr (.inr h)
def S31 (L : List Int) : Prop := L.Pairwise (· < ·) ∧ ∀ x ∈ L, 0 ≤ x ∧ x < 2147483648
theorem S31.nil : S31 [] := ⟨.nil, fun x h => by cases h⟩
theorem S31.add {L : List Int} {i : Int} (h : S31 L) : S31 (addL 2147483648 L i) := by
  unfold addL; split
  · rename_i hc
    exact ⟨ins_sorted h.1 hc.2.2, fun x hx => (mem_ins.1 hx).elim (fun e => by subst e; exact ⟨hc.1, hc.2.1⟩) (h.2 x)⟩
  · exact h
theorem S31.uni_ {L M : List Int} (h : S31 L) (k : S31 M) : S31 (uni L M) := ⟨uni_sorted h.1, fun x hx => (mem_uni.1 hx).elim (h.2 x) (k.2 x)⟩
theorem S31.rk0 {L : List Int} {i : Int} (h : S31 L) (hi : i < 0) : rk L i = 0 := rk_ge fun y hy => by have := h.2 y hy; omega
/-! merging -/
def MgP (L M out La Lb : List Int) : Prop := (out ++ La).Pairwise (· < ·) ∧ (out ++ Lb).Pairwise (· < ·) ∧ (∀ x, (x ∈ L ∨ x ∈ M) ↔ (x ∈ out ∨ x ∈ La ∨ x ∈ Lb)) ∧ out.length + La.length + Lb.length ≤ L.length + M.length
theorem mg_start {L M : List Int} (h : L.Pairwise (· < ·)) (k : M.Pairwise (· < ·)) : MgP L M [] L M := ⟨h, k, fun x => by simp, by simp⟩
theorem mg_sw {L M out La Lb : List Int} (h : MgP L M out La Lb) : MgP M L out Lb La := ⟨h.2.1, h.1, fun x => by rw [or_comm, h.2.2.1, or_comm (a := x ∈ La)], by have := h.2.2.2; omega⟩
theorem pw_put {out Lb : List Int} {a b : Int} (h : (out ++ a :: Lb).Pairwise (· < ·)) (hb : b < a) (ho : ∀ x ∈ out, x < b) : (out ++ [b] ++ a :: Lb).Pairwise (· < ·) := by
  obtain ⟨p1, p2, p3⟩ := List.pairwise_append.1 h
  refine List.pairwise_append.2 ⟨List.pairwise_append.2 ⟨p1, by simp, fun x hx y hy => ?_⟩, p2, fun x hx y hy => ?_⟩
  · rw [List.mem_singleton] at hy; subst hy; exact ho x hx
  · rcases List.mem_append.1 hx with hx | hx
    · exact p3 x hx y hy
    · rw [List.mem_singleton] at hx; subst hx
      rcases List.mem_cons.1 hy with rfl | hy
      · exact hb
      · have := (List.pairwise_cons.1 p2).1 y hy; omega
theorem mg_l {L M out La Lb : List Int} {a b : Int} (h : MgP L M out (a :: La) (b :: Lb)) (hab : a < b) : MgP L M (out ++ [a]) La (b :: Lb) := by
  obtain ⟨p, q, r, s⟩ := h
  have p3 := (List.pairwise_append.1 p).2.2
  refine ⟨by simpa using p, pw_put q hab (fun x hx => p3 x hx a (by simp)), fun x => by rw [r]; simp only [List.mem_append, List.mem_cons, List.not_mem_nil, or_false]; grind, by simp at s ⊢; omega⟩
theorem mg_b {L M out La Lb : List Int} {a b : Int} (h : MgP L M out (a :: La) (b :: Lb)) (hab : a = b) : MgP L M (out ++ [a]) La Lb := by
  subst hab
  obtain ⟨p, q, r, s⟩ := h
  refine ⟨by simpa using p, by simpa using q, fun x => by rw [r]; simp only [List.mem_append, List.mem_cons, List.not_mem_nil, or_false]; grind, by simp at s ⊢; omega⟩
theorem mg_end {L M out La Lb : List Int} (h : MgP L M out La Lb) (hL : L.Pairwise (· < ·)) (he : La = [] ∨ Lb = []) : out ++ La ++ Lb = uni L M := by
  obtain ⟨p, q, r, s⟩ := h
  refine sorted_ext ?_ (uni_sorted hL) fun x => ?_
  · rcases he with rfl | rfl
    · simpa using q
    · simpa using p
  · rw [mem_uni, r]; simp [or_assoc]
theorem uni_cnt : ∀ (M L : List Int), M.Nodup → (uni L M).length = L.length + (M.filter fun x => decide (x ∉ L)).length
  | [], L, _ => by simp [uni]
  | x :: M, L, h => by
    obtain ⟨h1, h2⟩ := List.nodup_cons.1 h
    show (uni (addI L x) M).length = _
    rw [uni_cnt M _ h2]
    by_cases hx : x ∈ L
    · have e : addI L x = L := if_pos hx
      rw [e, List.filter_cons_of_neg (by simpa using hx)]
    · have e : (addI L x).length = L.length + 1 := by unfold addI; rw [if_neg hx, ins_len]
      rw [e, List.filter_cons_of_pos (by simpa using hx)]
      have e2 : (M.filter fun y => decide (y ∉ addI L x)) = M.filter fun y => decide (y ∉ L) := List.filter_congr fun y hy => by
        refine decide_eq_decide.2 ⟨fun h3 h4 => h3 (mem_addI.2 (.inr h4)), fun h3 h4 => ?_⟩
        rcases mem_addI.1 h4 with rfl | h5
        · exact h1 hy
        · exact h3 h5
      rw [e2]; simp; omega
theorem nodup_lt {L : List Int} (h : L.Pairwise (· < ·)) : L.Nodup := h.imp fun h => by omega
def ofL (l : List Int) : List Int := l.foldl (fun L i => addL 2147483648 L i) []
def OfP (l L : List Int) (k : Int) : Prop := L = ofL (l.take k.toNat)
theorem ofP_start (l : List Int) : OfP l [] 0 := by simp [OfP, ofL]
theorem ofP_step {l L : List Int} {k : Int} (h : OfP l L k) (h0 : 0 ≤ k) (h1 : k < l.length) : OfP l (addL 2147483648 L (rdI l k)) (k + 1) := by
  unfold OfP at h ⊢
  rw [show (k + 1).toNat = k.toNat + 1 by omega, List.take_add_one, rdI_eq h0 h1, h]
  simp [ofL]
theorem ofP_end {l L : List Int} {k : Int} (h : OfP l L k) (hk : k = l.length) : L = ofL l := by unfold OfP at h; rw [h, hk, Int.toNat_natCast, List.take_length]
theorem ofP_len {l L : List Int} {k : Int} (h : OfP l L k) : L.length ≤ k.toNat := by
  rw [h]; unfold ofL
  have : ∀ (m : List Int) (Q : List Int), (m.foldl (fun L i => addL 2147483648 L i) Q).length ≤ Q.length + m.length := fun m => by
    induction m with
    | nil => intro Q; simp
    | cons x m ih => intro Q; have h1 := ih (addL 2147483648 Q x); have h2 := addL_len 2147483648 x Q; simp only [List.foldl_cons, List.length_cons]; omega
  have h3 := this (l.take k.toNat) []
  rw [List.length_take] at h3
  simp only [List.length_nil] at h3; omega
theorem ofP_s31 {l L : List Int} {k : Int} (h : OfP l L k) : S31 L := by
  rw [h]; unfold ofL
  have : ∀ (m : List Int) (Q : List Int), S31 Q → S31 (m.foldl (fun L i => addL 2147483648 L i) Q) := fun m => by
    induction m with
    | nil => intro Q hQ; exact hQ
    | cons x m ih => intro Q hQ; exact ih _ hQ.add
  exact this _ _ .nil
theorem shr1 {w : Int} (h : 0 ≤ w) : shrW w 1 = w / 2 := by
  obtain ⟨m, rfl⟩ := Int.eq_ofNat_of_zero_le h
  unfold shrW
  rw [Int.toNat_natCast, show (1 : Int).toNat = 1 from rfl, Nat.shiftRight_eq_div_pow]
  simp
def plc (L : List Int) (i : Int) : Int := if i > 2147483647 then 0 else rk L i
theorem plc_in {L : List Int} {i : Int} (h : ¬ i > 2147483647) : plc L i = rk L i := if_neg h
theorem S31.not_ {L : List Int} {i : Int} (h : S31 L) (hi : i < 0 ∨ i > 2147483647) : i ∉ L := fun hx => by have := h.2 i hx; omega
theorem S31.plcO {L : List Int} {i : Int} (h : S31 L) (hi : i < 0 ∨ i > 2147483647) : plc L i = 0 := by
  unfold plc; split
  · rfl
  · exact h.rk0 (by omega)
theorem head_eq {L : List Int} (h : 0 < L.length) : L = rdI L 0 :: L.drop 1 := drop_at2 (xs := L) (i := 0) (by omega) (by omega)
theorem mgs_l {L M out La Lb : List Int} (h : MgP L M out La Lb) (ha : 0 < La.length) (hb : 0 < Lb.length) (hab : rdI La 0 < rdI Lb 0) : MgP L M (out ++ [rdI La 0]) (La.drop 1) Lb := by
  rw [head_eq ha, head_eq hb] at h
  have h2 := mg_l h hab
  rwa [← head_eq hb] at h2
theorem mgs_r {L M out La Lb : List Int} (h : MgP L M out La Lb) (ha : 0 < La.length) (hb : 0 < Lb.length) (hab : rdI La 0 > rdI Lb 0) : MgP L M (out ++ [rdI Lb 0]) La (Lb.drop 1) := mg_sw (mgs_l (mg_sw h) hb ha hab)
theorem mgs_b {L M out La Lb : List Int} (h : MgP L M out La Lb) (ha : 0 < La.length) (hb : 0 < Lb.length) (h1 : ¬ rdI La 0 < rdI Lb 0) (h2 : ¬ rdI La 0 > rdI Lb 0) : MgP L M (out ++ [rdI La 0]) (La.drop 1) (Lb.drop 1) := by
  rw [head_eq ha, head_eq hb] at h
  exact mg_b h (by omega)
theorem mg_len {L M out La Lb : List Int} (h : MgP L M out La Lb) : out.length + La.length + Lb.length ≤ L.length + M.length := h.2.2.2
theorem newB_len {L M : List Int} (k : M.Pairwise (· < ·)) : newB L M = decide (L.length < (uni L M).length) := by
  rw [uni_cnt M L (nodup_lt k)]
  unfold newB
  rcases h : (M.filter fun x => decide (x ∉ L)) with _ | ⟨y, ys⟩
  · have h2 := List.filter_eq_nil_iff.1 h
    rw [decide_eq_false (by simp), List.any_eq_false]
    intro x hx; have := h2 x hx; simpa using this
  · have hy : y ∈ M.filter fun x => decide (x ∉ L) := by rw [h]; simp
    rw [decide_eq_true (by simp), List.any_eq_true]
    exact ⟨y, (List.mem_filter.1 hy).1, (List.mem_filter.1 hy).2⟩
theorem rd_cut1 {W : World} {A : Option Addr} {c : Nat} {k : IntKind} {La : List Int} (h : Rd W A (ci k La)) (h1 : 1 ≤ c) (hl : La.length ≤ c) : Rd W (cutA A c 1 1) (ci k (La.drop 1)) := by
  have := rd_cut h h1 (by rw [ci_len]; exact hl)
  have e : (ci k La).drop 1 = ci k (La.drop 1) := by unfold ci; rw [List.map_drop]
  rwa [e] at this
/-! going through -/
structure SpT (b g c : Nat) (A : Option Addr) (L : List Int) (W : World) : Prop where
  hb : W.cell? ⟨b, 0, none⟩ = some (.pointer (some ⟨g, 0, none⟩))
  h0 : W.cell? ⟨g, 0, none⟩ = some (.slice A L.length c)
  hr : Rd W A (ci .i32 L)
theorem SpT.below {b g c : Nat} {A : Option Addr} {L : List Int} {W W' : World} (h : SpT b g c A L W) (hb : Below W.heap.size W W') : SpT b g c A L W' :=
  ⟨(hb.cell (World.block_lt_of_cell? W _ h.hb)).trans h.hb, (hb.cell (World.block_lt_of_cell? W _ h.h0)).trans h.h0, h.hr.below hb⟩
theorem SpT.put {b g c : Nat} {A : Option Addr} {L : List Int} {W : World} {l : Nat} {o o' : Obj} (h : SpT b g c A L W) (hl : W.heap[l]? = some o) (ho : o.isCells = false) : SpT b g c A L (W.putObj l o') := by
  have key : ∀ {p : Addr} {v : Value}, W.cell? p = some v → (W.putObj l o').cell? p = some v := fun {p v} hp => by
    obtain ⟨o2, h2, h3⟩ := cells_of_cell hp
    refine (World.cell?_of_block (World.putObj_heap_other (fun e => ?_))).trans hp
    rw [e, hl] at h2; cases h2; rw [ho] at h3; cases h3
  exact ⟨key h.hb, key h.h0, fun j v hv => let ⟨ad, e, hc⟩ := h.hr j v hv; ⟨ad, e, key hc⟩⟩
def SpK (b g c : Nat) (A : Option Addr) (L : List Int) (W W' : World) : Prop := SpT b g c A L W → SpT b g c A L W'
theorem SpK.of {b g c : Nat} {A : Option Addr} {L : List Int} {W X Y : World} (h : SpT b g c A L W) (hb : Below W.heap.size X Y) : SpK b g c A L X Y := fun ⟨p1, p2, p4⟩ =>
  ⟨(hb.cell (World.block_lt_of_cell? W _ h.hb)).trans p1, (hb.cell (World.block_lt_of_cell? W _ h.h0)).trans p2, fun j v hv => by
    obtain ⟨ad, e, hc⟩ := p4 j v hv
    obtain ⟨ad2, e2, hc2⟩ := h.hr j v hv
    rw [e] at e2; cases e2
    exact ⟨ad, e, (hb.cell (World.block_lt_of_cell? W _ hc2)).trans hc⟩⟩
theorem drop_cons {L : List Int} {k : Int} (h0 : 0 ≤ k) (h1 : k < L.length) : L.drop k.toNat = rdI L k :: L.drop (k + 1).toNat := drop_at2 h0 h1
section
variable {P : Program} {W : World} {a : Act} {dst : Option Nat} {ty : TypeId} {ps : String} {af : Array Edge} {gd : Option (Nat × Bool)}
theorem R_min {x y : Operand} {k : IntKind} {i j : Int} {ts : Array TypeId} (hx : a.eval x = .int k i) (hy : a.eval y = .int k j) :
    (execOp a.eval ⟨dst, .call { callee := .builtin .min, args := #[x, y], argTypes := ts }, ty, ps, af, gd⟩).run P W = .ok (.value (.int k (min i j))) W := by
  have e : (if i < j then i else j) = min i j := by split <;> omega
  have e2 : (if j < i then j else i) = min i j := by split <;> omega
  simp [execOp, resolve, invoke, builtin, hx, hy, Builtin.min_, Builtin.min2, e, e2]
end
/-! ### a set of either kind -/
section
variable {W0 W : World} {M : Nat → Prop} {L E F : List Ent}
theorem St.openA (h : St W0 M W (many E :: L)) : St W0 M W (E ++ L) := by
  have h2 : St W0 M W (E ++ many ([] ++ []) :: L) := St.openM (F1 := []) (F2 := []) (by rw [List.nil_append, List.append_nil]; exact h)
  have h3 : (E ++ many ([] ++ []) :: L).Perm (many ([] ++ []) :: (E ++ L)) := List.perm_middle
  exact (h2.perm h3).drop1
theorem St.closeA (h : St W0 M W (E ++ L)) : St W0 M W (many E :: L) := by
  have h2 : St W0 M W (E ++ many ([] ++ []) :: L) := h.nilM.perm List.perm_middle.symm
  have h3 := St.closeM (F1 := []) (F2 := []) h2
  rwa [List.nil_append, List.append_nil] at h3
theorem St.open1 (h : St W0 M W [many E]) : St W0 M W E := by
  have := h.openA
  rwa [List.append_nil] at this
theorem St.close1 (h : St W0 M W E) : St W0 M W [many E] := St.closeA (by rwa [List.append_nil])
theorem St.open2 (h : St W0 M W [many E, many F]) : St W0 M W (E ++ F) := by
  have h2 : St W0 M W (many F :: E) := h.openA.perm (List.perm_append_comm : (E ++ [many F]).Perm ([many F] ++ E))
  exact h2.openA.perm List.perm_append_comm
theorem St.close2 (h : St W0 M W (E ++ F)) : St W0 M W [many E, many F] := by
  have h2 := h.closeA
  have h3 : St W0 M W (F ++ [many E]) := h2.perm (List.perm_append_comm : ([many E] ++ F).Perm (F ++ [many E]))
  exact h3.closeA.perm (List.Perm.swap _ _ _)
end
inductive MxF where
  | few (q c : Nat) (A : Option Addr)
  | mny (d c : Nat) (A : Option Addr) (ws : List Int)
def MxF.b : MxF → Bool
  | .few .. => false
  | .mny .. => true
def MxF.ok (n : Int) (L : List Int) : MxF → Prop
  | .few .. => S31 L ∧ (∀ x ∈ L, x < n) ∧ L.length ≤ 8
  | .mny _ _ _ ws => Rep ws n L ∧ 0 < n
theorem MxF.ok.srt {n : Int} {L : List Int} {x : MxF} (h : x.ok n L) : L.Pairwise (· < ·) := by
  cases x with
  | few => exact h.1.1
  | mny => exact Rep.srt h.1
theorem MxF.ok.lim {n : Int} {L : List Int} {x : MxF} (h : x.ok n L) : ∀ y ∈ L, 0 ≤ y ∧ y < n := by
  cases x with
  | few => exact fun y hy => ⟨(h.1.2 y hy).1, h.2.1 y hy⟩
  | mny => exact Rep.lim h.1
theorem inr_len {n : Int} {L : List Int} (hs : L.Pairwise (· < ·)) (hl : ∀ y ∈ L, 0 ≤ y ∧ y < n) (h0 : 0 ≤ n) : (L.length : Int) ≤ n := by
  have key : ∀ (L : List Int) (a : Int), a ≤ n → L.Pairwise (· < ·) → (∀ y ∈ L, a ≤ y ∧ y < n) → (L.length : Int) ≤ n - a := by
    intro L
    induction L with
    | nil => intro a ha _ _; simp; omega
    | cons x L ih =>
      intro a ha hs hl
      obtain ⟨p, q⟩ := List.pairwise_cons.1 hs
      have hx := hl x (by simp)
      have := ih (x + 1) (by omega) q (fun y hy => ⟨by have := p y hy; omega, (hl y (by simp [hy])).2⟩)
      simp only [List.length_cons]; omega
  have := key L 0 h0 hs hl
  omega
theorem MxF.ok.len {n : Int} {L : List Int} {x : MxF} (h : x.ok n L) (h0 : 0 ≤ n) : (L.length : Int) ≤ n := inr_len h.srt h.lim h0
def mxE (tm tsp t32 td tu : Nat) (g : Nat) (n : Int) (L : List Int) : MxF → List Ent
  | .few q c A => [blk g [.pointer (some ⟨q, 0, none⟩), .pointer none, .int .i64 n] tm, blk q [.slice A L.length c] tsp, row A L.length c (ci .i32 L) t32 1]
  | .mny d c A ws => [blk g [.pointer none, .pointer (some ⟨d, 0, none⟩), .int .i64 n] tm, blk d [.slice A ws.length c, .int .i64 n] td, row A ws.length c (ci .u64 ws) tu 1]
/-! adding many -/
def adds (n : Int) (L P : List Int) : List Int := P.foldl (addL n) L
theorem adds_snoc (n : Int) (L P : List Int) (x : Int) : adds n L (P ++ [x]) = addL n (adds n L P) x := by simp [adds]
theorem addL_addI {n x : Int} {L : List Int} (h0 : 0 ≤ x) (h1 : x < n) : addL n L x = addI L x := (addL_lim h0 h1).1
theorem adds_uni {n : Int} : ∀ {P L : List Int}, (∀ x ∈ P, 0 ≤ x ∧ x < n) → adds n L P = uni L P := fun {P} => by
  induction P with
  | nil => intro L _; rfl
  | cons x P ih =>
    intro L h
    show adds n (addL n L x) P = uni (addI L x) P
    rw [addL_addI (h x (by simp)).1 (h x (by simp)).2]
    exact ih fun y hy => h y (by simp [hy])
theorem uni_nil {L : List Int} (h : L.Pairwise (· < ·)) : uni [] L = L := sorted_ext (uni_sorted .nil) h fun x => by rw [mem_uni]; simp
theorem uni_comm {L M : List Int} (h : L.Pairwise (· < ·)) (k : M.Pairwise (· < ·)) : uni L M = uni M L := sorted_ext (uni_sorted h) (uni_sorted k) fun x => by rw [mem_uni, mem_uni, or_comm]
theorem adds_all {n : Int} {L : List Int} (hs : L.Pairwise (· < ·)) (hl : ∀ x ∈ L, 0 ≤ x ∧ x < n) : adds n [] L = L := by rw [adds_uni hl, uni_nil hs]
theorem mem_adds {n x : Int} : ∀ {P L : List Int}, x ∈ adds n L P ↔ x ∈ L ∨ (x ∈ P ∧ 0 ≤ x ∧ x < n) := fun {P} => by
  induction P with
  | nil => intro L; simp [adds]
  | cons y P ih =>
    intro L
    show x ∈ adds n (addL n L y) P ↔ _
    rw [ih]
    unfold addL
    split
    · rename_i hc
      rw [mem_ins, List.mem_cons]
      constructor
      · rintro ((rfl | h) | h)
        · exact .inr ⟨.inl rfl, hc.1, hc.2.1⟩
        · exact .inl h
        · exact .inr ⟨.inr h.1, h.2⟩
      · rintro (h | ⟨rfl | h, h2⟩)
        · exact .inl (.inr h)
        · exact .inl (.inl rfl)
        · exact .inr ⟨h, h2⟩
    · rename_i hc
      rw [List.mem_cons]
      constructor
      · rintro (h | h)
        · exact .inl h
        · exact .inr ⟨.inr h.1, h.2⟩
      · rintro (h | ⟨rfl | h, h2⟩)
        · exact .inl h
        · exact .inl (Classical.byContradiction fun hn => hc ⟨h2.1, h2.2, hn⟩)
        · exact .inr ⟨h, h2⟩
theorem addL_ge (n x : Int) (L : List Int) : L.length ≤ (addL n L x).length := by
  unfold addL; split
  · rw [ins_len]; omega
  · exact Nat.le_refl _
def addsB (n : Int) (L P : List Int) : Bool := P.any fun x => decide (0 ≤ x ∧ x < n ∧ x ∉ L)
theorem addsB_snoc (n : Int) (L P : List Int) (x : Int) : addsB n L (P ++ [x]) = (addB n (adds n L P) x || addsB n L P) := by
  unfold addsB addB
  rw [List.any_append]
  simp only [List.any_cons, List.any_nil, Bool.or_false]
  by_cases hp : (P.any fun x => decide (0 ≤ x ∧ x < n ∧ x ∉ L)) = true
  · rw [hp]; simp
  · rw [Bool.not_eq_true] at hp
    rw [hp, Bool.false_or, Bool.or_false]
    refine decide_eq_decide.2 ⟨fun ⟨h0, h1, h2⟩ => ⟨h0, h1, fun hm => ?_⟩, fun ⟨h0, h1, h2⟩ => ⟨h0, h1, fun hm => h2 (mem_adds.2 (.inl hm))⟩⟩
    rcases mem_adds.1 hm with h | h
    · exact h2 h
    · have := List.any_eq_false.1 hp x h.1
      simp only [decide_eq_true_eq] at this
      exact this ⟨h0, h1, h2⟩
theorem addsB_new {n : Int} {L P : List Int} (h : ∀ x ∈ P, 0 ≤ x ∧ x < n) : addsB n L P = newB L P := by
  unfold addsB newB
  induction P with
  | nil => rfl
  | cons x P ih =>
    rw [List.any_cons, List.any_cons, ih fun y hy => h y (by simp [hy])]
    have := h x (by simp)
    congr 1
    exact decide_eq_decide.2 ⟨fun k => k.2.2, fun k => ⟨this.1, this.2, k⟩⟩
/-! from one number to another -/
def irg (a : Int) (k : Nat) : List Int := (List.range k).map fun j : Nat => a + (j : Int)
theorem irg_snoc (a : Int) (k : Nat) : irg a (k + 1) = irg a k ++ [a + (k : Int)] := by unfold irg; rw [List.range_succ, List.map_append]; rfl
theorem mem_irg {a x : Int} {k : Nat} : x ∈ irg a k ↔ a ≤ x ∧ x < a + k := by
  unfold irg
  rw [List.mem_map]
  constructor
  · rintro ⟨j, hj, rfl⟩; have := List.mem_range.1 hj; omega
  · intro h; exact ⟨(x - a).toNat, List.mem_range.2 (by omega), by omega⟩
def filL (n : Int) (L : List Int) (a b : Int) : List Int := adds n L (irg (max a 0) (min b n - max a 0).toNat)
theorem mem_filL {n x a b : Int} {L : List Int} : x ∈ filL n L a b ↔ x ∈ L ∨ (a ≤ x ∧ x < b ∧ 0 ≤ x ∧ x < n) := by
  unfold filL
  rw [mem_adds, mem_irg]
  constructor
  · rintro (h | h)
    · exact .inl h
    · exact .inr (by omega)
  · rintro (h | h)
    · exact .inl h
    · exact .inr (by omega)
def FlP (n a : Int) (L0 L : List Int) (i : Int) : Prop := L = adds n L0 (irg (max a 0) (i - max a 0).toNat)
theorem flP_start (n a : Int) (L : List Int) : FlP n a L L (max a 0) := by unfold FlP; rw [Int.sub_self]; rfl
theorem flP_step {n a i : Int} {L0 L : List Int} (h : FlP n a L0 L i) (hi : max a 0 ≤ i) : FlP n a L0 (addL n L i) (i + 1) := by
  unfold FlP at h ⊢
  obtain ⟨m, hm⟩ : ∃ m : Nat, i - max a 0 = m := ⟨(i - max a 0).toNat, by omega⟩
  rw [hm, Int.toNat_natCast] at h
  rw [show (i + 1 - max a 0).toNat = m + 1 by omega, irg_snoc, adds_snoc, ← h, show max a 0 + (m : Int) = i by omega]
theorem flP_end {n a b i : Int} {L0 L : List Int} (h : FlP n a L0 L i) (h1 : max a 0 ≤ i) (h2 : ¬ i < min b n) (h3 : i ≤ max (min b n) (max a 0)) : L = filL n L0 a b := by
  unfold FlP at h; unfold filL
  rw [h]
  congr 2
  omega
theorem few_P {tm tsp t32 td tu g q c : Nat} {A : Option Addr} {n : Int} {L : List Int} {W : World} (hP : (many (mxE tm tsp t32 td tu g n L (.few q c A))).P W) :
    W.cell? ⟨g, 0, none⟩ = some (.pointer (some ⟨q, 0, none⟩)) ∧ W.cell? ⟨g, 1, none⟩ = some (.pointer none) ∧ W.cell? ⟨g, 2, none⟩ = some (.int .i64 n) ∧ W.cell? ⟨q, 0, none⟩ = some (.slice A L.length c) ∧ Rd W A (ci .i32 L) :=
  have h1 := hP.1 _ (List.mem_cons_self ..)
  have h2 := hP.1 _ (List.mem_cons_of_mem _ (List.mem_cons_self ..))
  have h3 := hP.1 _ (List.mem_cons_of_mem _ (List.mem_cons_of_mem _ (List.mem_cons_self ..)))
  ⟨cell_of_blkP h1 rfl, cell_of_blkP h1 rfl, cell_of_blkP h1 rfl, cell_of_blkP h2 rfl, rd_of_rowP h3⟩
theorem mny_P {tm tsp t32 td tu g d c : Nat} {A : Option Addr} {ws : List Int} {n : Int} {L : List Int} {W : World} (hP : (many (mxE tm tsp t32 td tu g n L (.mny d c A ws))).P W) :
    W.cell? ⟨g, 0, none⟩ = some (.pointer none) ∧ W.cell? ⟨g, 1, none⟩ = some (.pointer (some ⟨d, 0, none⟩)) ∧ W.cell? ⟨g, 2, none⟩ = some (.int .i64 n) ∧ W.cell? ⟨d, 0, none⟩ = some (.slice A ws.length c) ∧ W.cell? ⟨d, 1, none⟩ = some (.int .i64 n) ∧ Rd W A (ci .u64 ws) :=
  have h1 := hP.1 _ (List.mem_cons_self ..)
  have h2 := hP.1 _ (List.mem_cons_of_mem _ (List.mem_cons_self ..))
  have h3 := hP.1 _ (List.mem_cons_of_mem _ (List.mem_cons_of_mem _ (List.mem_cons_self ..)))
  ⟨cell_of_blkP h1 rfl, cell_of_blkP h1 rfl, cell_of_blkP h1 rfl, cell_of_blkP h2 rfl, cell_of_blkP h2 rfl, rd_of_rowP h3⟩
theorem mx_n {tm tsp t32 td tu g : Nat} {x : MxF} {n : Int} {L : List Int} {W : World} (hP : (many (mxE tm tsp t32 td tu g n L x)).P W) : W.cell? ⟨g, 2, none⟩ = some (.int .i64 n) := by
  cases x with
  | few q c A => exact (few_P hP).2.2.1
  | mny d c A ws => exact (mny_P hP).2.2.1
theorem St.hasP {W0 W : World} {M : Nat → Prop} {L : List Ent} (h : St W0 M W L) {i : Nat} {e : Ent} (hi : L[i]? = some e) : e.P W := (h.has e (List.mem_of_getElem? hi)).1
theorem addL_31 {n i : Int} {L : List Int} (h0 : 0 ≤ i) (h1 : i < n) (hn : n ≤ 2147483648) : addL 2147483648 L i = addL n L i ∧ addB 2147483648 L i = addB n L i := by
  obtain ⟨a, b⟩ := addL_lim (L := L) h0 h1
  obtain ⟨c, d⟩ := addL_lim (n := 2147483648) (L := L) h0 (by omega)
  exact ⟨c.trans a.symm, d.trans b.symm⟩
theorem lim_add {n i : Int} {L : List Int} (h : ∀ x ∈ L, x < n) : ∀ x ∈ addL n L i, x < n := fun x hx => by
  unfold addL at hx; split at hx
  · rename_i hc
    rcases mem_ins.1 hx with rfl | hx
    · exact hc.2.1
    · exact h x hx
  · exact h x hx
theorem rd_nil {W : World} {A : Option Addr} {k : IntKind} : Rd W A (ci k []) := fun j v hv => by simp [ci] at hv
def wrd (x : MxF) (n : Int) (L : List Int) : Int := if x.b then (n + 63) / 64 else (L.length : Int)
theorem MxF.ok.uniq {n : Int} {L : List Int} {x : MxF} (h : x.ok n L) (hl : x.b = false) : L.length ≤ 8 := by
  cases x with
  | few => exact h.2.2
  | mny => cases hl
theorem b_or {n : Int} {L : List Int} {x : MxF} (h : x.ok n L) : x.b = (x.b || decide (8 < L.length)) := by
  cases hb : x.b with
  | true => rfl
  | false => have := h.uniq hb; rw [decide_eq_false (by omega)]; rfl
theorem b_step {b c d : Bool} {m k : Nat} (h : c = (b || decide (8 < m))) (h2 : d = (c || decide (8 < k))) (hm : m ≤ k) : d = (b || decide (8 < k)) := by
  rw [h2, h]
  by_cases h8 : 8 < m
  · rw [decide_eq_true h8, decide_eq_true (show 8 < k by omega)]; simp
  · rw [decide_eq_false h8]; simp

theorem St.close12 {W0 W : World} {M : Nat → Prop} {X : Ent} {F : List Ent} (h : St W0 M W (X :: F)) : St W0 M W [X, many F] := by
  have h3 : St W0 M W (F ++ [X]) := h.perm (List.perm_append_comm : ([X] ++ F).Perm (F ++ [X]))
  exact h3.closeA.perm (List.Perm.swap _ _ _)
theorem b_orF {n : Int} {L : List Int} {x : MxF} (h : x.ok n L) : x.b = (x.b || decide (8 < L.length)) := b_or h
/-! an act on two sets -/
theorem addL_srt {n i : Int} {L : List Int} (h : L.Pairwise (· < ·)) : (addL n L i).Pairwise (· < ·) := by
  unfold addL; split
  · rename_i hc; exact ins_sorted h hc.2.2
  · exact h
theorem addL_lm {n i : Int} {L : List Int} (h : ∀ x ∈ L, 0 ≤ x ∧ x < n) : ∀ x ∈ addL n L i, 0 ≤ x ∧ x < n := fun x hx => by
  unfold addL at hx; split at hx
  · rename_i hc
    rcases mem_ins.1 hx with rfl | hx
    · exact ⟨hc.1, hc.2.1⟩
    · exact h x hx
  · exact h x hx
theorem adds_srt {n : Int} : ∀ {P L : List Int}, L.Pairwise (· < ·) → (adds n L P).Pairwise (· < ·)
  | [], L, h => h
  | x :: P, L, h => adds_srt (P := P) (addL_srt h)
theorem filL_srt {n a b : Int} {L : List Int} (h : L.Pairwise (· < ·)) : (filL n L a b).Pairwise (· < ·) := adds_srt h
def FlQ (n a b : Int) (L L1 : List Int) (i : Int) : Prop := L1.Pairwise (· < ·) ∧ (∀ x ∈ L1, 0 ≤ x ∧ x < n) ∧ (∀ x, x ∈ L1 ↔ x ∈ L ∨ (a ≤ x ∧ x < b ∧ 0 ≤ x ∧ x < i)) ∧ L.length ≤ L1.length
theorem flQ_start {n a b : Int} {L : List Int} (h : L.Pairwise (· < ·)) (k : ∀ x ∈ L, 0 ≤ x ∧ x < n) : FlQ n a b L L 0 := ⟨h, k, fun x => by constructor <;> intro h <;> (try omega) <;> (first | exact .inl h | exact h.elim id (fun h => by omega)), Nat.le_refl _⟩
theorem flQ_in {n a b i : Int} {L L1 : List Int} (h : FlQ n a b L L1 i) (h0 : 0 ≤ i) (h1 : i < n) (ha : i ≥ a) (hb : i < b) : FlQ n a b L (addL n L1 i) (i + 1) := by
  refine ⟨addL_srt h.1, addL_lm h.2.1, fun x => ?_, Nat.le_trans h.2.2.2 (addL_ge n i L1)⟩
  rw [addL_addI h0 h1, mem_addI, h.2.2.1]
  constructor
  · rintro (rfl | k | k)
    · exact .inr (by omega)
    · exact .inl k
    · exact .inr (by omega)
  · rintro (k | k)
    · exact .inr (.inl k)
    · by_cases hx : x = i
      · exact .inl hx
      · exact .inr (.inr (by omega))
theorem flQ_out {n a b i : Int} {L L1 : List Int} (h : FlQ n a b L L1 i) (ho : ¬ i ≥ a ∨ ¬ i < b) : FlQ n a b L L1 (i + 1) :=
  ⟨h.1, h.2.1, fun x => by rw [h.2.2.1]; exact ⟨fun k => k.elim .inl (fun k => .inr (by omega)), fun k => k.elim .inl (fun k => .inr (by omega))⟩, h.2.2.2⟩
theorem flQ_end {n a b i : Int} {L L1 : List Int} (h : FlQ n a b L L1 i) (hs : L.Pairwise (· < ·)) (h1 : i = n) : L1 = filL n L a b :=
  sorted_ext h.1 (filL_srt hs) fun x => by rw [h.2.2.1, mem_filL, h1]
def zL (n m kd i t : Int) (L M : List Int) : List Int := if kd = 0 then addL n L i else if kd = 2 then (if n = m then uni L M else L) else if kd = 4 then filL n L i t else L
def zM (n m kd i t : Int) (L M : List Int) : List Int := if kd = 1 then addL m M i else if kd = 3 then (if m = n then uni M L else M) else if kd = 5 then filL m M i t else M
def zB (n m kd i : Int) (L M : List Int) : Bool := if kd = 0 then addB n L i else if kd = 1 then addB m M i else if kd = 2 then (if n = m then newB L M else false) else if kd = 3 then (if m = n then newB M L else false) else false
def zb1 (n m kd : Int) (b b2 : Bool) (L : List Int) : Bool := b || (decide (kd = 2 ∧ n = m) && b2) || decide (8 < L.length)
def zb2 (n m kd : Int) (b b2 : Bool) (M : List Int) : Bool := b2 || (decide (kd = 3 ∧ m = n) && b) || decide (8 < M.length)
theorem zb1_n {n m kd : Int} {b b2 : Bool} {L : List Int} (h : ¬ kd = 2) : zb1 n m kd b b2 L = (b || decide (8 < L.length)) := by unfold zb1; rw [decide_eq_false (fun k => h k.1)]; simp
theorem zb2_n {n m kd : Int} {b b2 : Bool} {M : List Int} (h : ¬ kd = 3) : zb2 n m kd b b2 M = (b2 || decide (8 < M.length)) := by unfold zb2; rw [decide_eq_false (fun k => h k.1)]; simp
theorem zb1_2 {n m kd : Int} {b b2 : Bool} {L : List Int} (h : kd = 2) : zb1 n m kd b b2 L = (b || (decide (n = m) && b2) || decide (8 < L.length)) := by unfold zb1; simp [h]
theorem zb2_3 {n m kd : Int} {b b2 : Bool} {M : List Int} (h : kd = 3) : zb2 n m kd b b2 M = (b2 || (decide (m = n) && b) || decide (8 < M.length)) := by unfold zb2; simp [h]
def actM (a : Int × Int × Int) : List Value := [.int .i64 a.1, .int .i64 a.2.1, .int .i64 a.2.2]

end Go.Proofs.YtdiodmdohkjafaaDoor.Hp
