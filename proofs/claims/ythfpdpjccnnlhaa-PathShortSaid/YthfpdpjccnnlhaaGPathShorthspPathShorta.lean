/- Written for this claim by gp.py, a program of this session's, over the kit's print. Lean checks it. -/
import Derived.Test.YthfpdpjccnnlhaaGPathShortx0
import Derived.Test.YthfpdpjccnnlhaaGPathShorthx
import Derived.WalkKit
import Derived.StillTailTactics
import Derived.Deep.LoopGhost
import Derived.KernelRfl
import Derived.Deep.OwnRows
import Derived.Laws.OwnMore
import Derived.Laws.MakeOwn
import Derived.Maps.AppendAt
import Derived.OrdersHeld
import Derived.Maps.OwnSet
import Derived.Maps.Keyed
import Derived.Maps.Views
import Derived.Laws.CopyRow
import Derived.Laws.IdiomCopy
import Derived.Laws.Entries
namespace Go.Proofs.Ythfpdpjccnnlhaa.GPathShort
open Go.RowKit Go.Proofs.YthfpdpjccnnlhaaW.PrintWords Go.Proofs.YthfpdpjccnnlhaaW.PrintLast Go.Proofs.YthfpdpjccnnlhaaW.PrintMore
attribute [local go_sem] max2_int min2_int max_two min_two max_three min_three max_four min_four   -- for this text's walks alone
set_option linter.unusedVariables false
set_option linter.unusedSimpArgs false

--import Derived.WalkKit
--import Derived.StillTailTactics
--import Derived.Deep.LoopGhost
--import Derived.KernelRfl
--import Derived.Deep.OwnRows
--import Derived.Laws.OwnMore
--import Derived.Laws.MakeOwn
--import Derived.Maps.AppendAt
--import Derived.OrdersHeld
--import Derived.Maps.OwnSet
--import Derived.Maps.Keyed
--import Derived.Maps.Views
--import Derived.Laws.CopyRow
--import Derived.Laws.IdiomCopy
--import Derived.Laws.Entries
/-! ### worlds: what is kept -/
structure Kpt (M : Nat → Prop) (w w' : World) : Prop where
  os : w'.os = w.os
  tape : w'.tape = w.tape
  output : w'.output = w.output
  size : w.heap.size ≤ w'.heap.size
  block : ∀ k, k < w.heap.size → ¬ M k → w'.heap[k]? = w.heap[k]?
theorem Kpt.refl (M : Nat → Prop) (w : World) : Kpt M w w := ⟨rfl, rfl, rfl, Nat.le_refl _, fun _ _ _ => rfl⟩
theorem Kpt.trans {M N : Nat → Prop} {a b c : World} (h : Kpt M a b) (k : Kpt N b c) (hn : ∀ i, N i → M i ∨ a.heap.size ≤ i) : Kpt M a c :=
  ⟨k.os.trans h.os, k.tape.trans h.tape, k.output.trans h.output, Nat.le_trans h.size k.size, fun i hi hm =>
    (k.block i (Nat.lt_of_lt_of_le hi h.size) (fun hN => (hn i hN).elim hm (fun h2 => by omega))).trans (h.block i hi hm)⟩
theorem Kpt.of_below {M : Nat → Prop} {w w' : World} (h : Below w.heap.size w w') : Kpt M w w' := ⟨h.os, h.tape, h.output, h.size, fun k hk _ => h.block k hk⟩
theorem Kpt.below {M : Nat → Prop} {w w' : World} (h : Kpt M w w') (hM : ∀ k, ¬ M k) : Below w.heap.size w w' := ⟨h.os, h.tape, h.output, h.size, fun k hk => h.block k hk (hM k)⟩
theorem Kpt.of_grown {M : Nat → Prop} {w w' : World} {r : Option Nat} (h : w.grownBy w' r) (hM : ∀ k, r = some k → M k) : Kpt M w w' := ⟨h.os, h.tape, h.output, h.size, fun k hk hm => h.block k hk (fun e => hm (hM k e.symm))⟩
theorem Kpt.alloc {M : Nat → Prop} (w : World) (o : Obj) : Kpt M w (w.alloc o) := ⟨rfl, rfl, rfl, by simp, fun k hk _ => heap_alloc_old w o hk⟩
theorem Kpt.drew {M : Nat → Prop} (w : World) (n : Nat) : Kpt M w { w with drawn := n } := ⟨rfl, rfl, rfl, Nat.le_refl _, fun _ _ _ => rfl⟩
theorem Kpt.setRow {M : Nat → Prop} (w : World) (g : Nat) (cs : Array Value) (hM : M g) : Kpt M w (w.setRow g cs) :=
  ⟨rfl, rfl, rfl, by simp [World.setRow], fun k _ hm => setRow_other w g k _ (fun e => hm (e ▸ hM))⟩
/-! ### what is owned -/
structure Ent where
  own : Nat → Prop
  P : World → Prop
  loc : ∀ W W' : World, (∀ k, own k → W'.heap[k]? = W.heap[k]?) → P W → P W'
/-- A block whose cells are all known. -/
def blk (g : Nat) (cs : List Value) (t : Nat) : Ent := ⟨fun k => k = g, fun W => W.heap[g]? = some (.cells cs.toArray t (0, 0)), fun _ _ h p => (h g rfl).trans p⟩
/-- A slice's block from its first cell on; there may be room behind. -/
def row (A : Option Addr) (n c : Nat) (cs : List Value) (t z : Nat) : Ent :=
  ⟨fun k => (Value.slice A n c).ownBlock = some k, fun W => W.ownsRow 0 t z (.slice A n c) n cs, fun W W' h p => by
    refine ⟨p.1, ?_⟩
    rcases p.2 with hn | ⟨g, cap, cur, e, hb, hg, rest⟩
    · exact .inl hn
    · refine .inr ⟨g, cap, cur, e, hb, ?_, rest⟩
      rw [h g (by rw [e]; rfl)]
      exact hg⟩
def owns (L : List Ent) : Nat → Prop := fun k => ∃ e ∈ L, e.own k
structure St (W0 : World) (M : Nat → Prop) (W : World) (L : List Ent) : Prop where
  kept : Kpt M W0 W
  has : ∀ e ∈ L, e.P W ∧ ∀ k, e.own k → k < W.heap.size ∧ (M k ∨ W0.heap.size ≤ k)
  ne : L.Pairwise fun e f => ∀ k, e.own k → ¬ f.own k
namespace St
variable {W0 W W' : World} {M : Nat → Prop} {L : List Ent} {e e' : Ent}
theorem start (W : World) (M : Nat → Prop) : St W M W [] := ⟨.refl _ _, fun _ h => (nomatch h), .nil⟩
theorem get (h : St W0 M W L) {i : Nat} (hi : L[i]? = some e) : e.P W := (h.has e (List.mem_of_getElem? hi)).1
theorem lt (h : St W0 M W L) {i : Nat} (hi : L[i]? = some e) {k : Nat} (hk : e.own k) : k < W.heap.size := ((h.has e (List.mem_of_getElem? hi)).2 k hk).1
theorem le (h : St W0 M W L) : W0.heap.size ≤ W.heap.size := h.kept.size
/-- The world goes on, nothing of it changes. -/
theorem step (h : St W0 M W L) (hk : Kpt (fun _ => False) W W') : St W0 M W' L :=
  ⟨h.kept.trans hk (fun _ f => f.elim), fun e he => ⟨e.loc W W' (fun k ho => hk.block k ((h.has e he).2 k ho).1 (fun f => f)) (h.has e he).1, fun k ho => ⟨Nat.lt_of_lt_of_le ((h.has e he).2 k ho).1 hk.size, ((h.has e he).2 k ho).2⟩⟩, h.ne⟩
theorem below (h : St W0 M W L) (hb : Below W.heap.size W W') : St W0 M W' L := h.step (.of_below hb)
theorem drew (h : St W0 M W L) (n : Nat) : St W0 M { W with drawn := n } L := h.step (.drew _ _)
/-- Something new. -/
theorem new (h : St W0 M W L) (hk : Kpt (fun _ => False) W W') (hP : e'.P W') (ho : ∀ k, e'.own k → W.heap.size ≤ k ∧ k < W'.heap.size) : St W0 M W' (e' :: L) := by
  have h2 := h.step hk
  refine ⟨h2.kept, fun e he => ?_, List.pairwise_cons.2 ⟨fun f hf k h1 h3 => ?_, h2.ne⟩⟩
  · rcases List.mem_cons.1 he with rfl | he
    · exact ⟨hP, fun k hk' => ⟨(ho k hk').2, .inr (Nat.le_trans h.kept.size (ho k hk').1)⟩⟩
    · exact h2.has e he
  · have := ((h.has f hf).2 k h3).1
    have := (ho k h1).1
    omega
theorem newBlk (h : St W0 M W L) (cs : List Value) (t : Nat) : St W0 M (W.alloc (.cells cs.toArray t)) (blk W.heap.size cs t :: L) :=
  h.new (.alloc _ _) (heap_alloc_new _ _) (fun k hk => by subst hk; exact ⟨Nat.le_refl _, by simp⟩)
/-- One entry changes. -/
theorem upd (h : St W0 M W L) {i : Nat} (hi : L[i]? = some e) (hk : Kpt e.own W W') (hP : e'.P W') (ho : ∀ k, e'.own k → (e.own k ∨ W.heap.size ≤ k) ∧ k < W'.heap.size) : St W0 M W' (L.set i e') := by
  have hm := List.mem_of_getElem? hi
  have hlt := (List.getElem?_eq_some_iff.1 hi).1
  have hel := (List.getElem?_eq_some_iff.1 hi).2
  have hne := List.pairwise_iff_getElem.1 h.ne
  refine ⟨h.kept.trans hk (fun k hk' => ((h.has e hm).2 k hk').2), fun f hf => ?_, List.pairwise_iff_getElem.2 fun a b ha hb hab k h1 h2 => ?_⟩
  · obtain ⟨j, hj, rfl⟩ := List.getElem_of_mem hf
    rw [List.length_set] at hj
    rcases Nat.decEq j i with hji | rfl
    · rw [List.getElem_set_ne (Ne.symm hji)]
      have hf' := h.has L[j] (List.getElem_mem hj)
      refine ⟨L[j].loc W W' (fun k ho' => hk.block k (hf'.2 k ho').1 (fun he => ?_)) hf'.1, fun k ho' => ⟨Nat.lt_of_lt_of_le (hf'.2 k ho').1 hk.size, (hf'.2 k ho').2⟩⟩
      rcases Nat.lt_or_gt_of_ne hji with hlt' | hgt
      · exact hne j i hj hlt hlt' k ho' (hel ▸ he)
      · exact hne i j hlt hj hgt k (hel ▸ he) ho'
    · rw [List.getElem_set_self]
      exact ⟨hP, fun k hk' => ⟨(ho k hk').2, (ho k hk').1.elim (fun h1 => ((h.has e hm).2 k h1).2) (fun h1 => .inr (Nat.le_trans h.kept.size h1))⟩⟩
  · rw [List.length_set] at ha hb
    have key : ∀ (j : Nat) (hj : j < L.length), j ≠ i → L[j].own k → ¬ e'.own k := fun j hj hji h3 h4 => by
      rcases (ho k h4).1 with h5 | h5
      · rcases Nat.lt_or_gt_of_ne hji with hlt' | hgt
        · exact hne j i hj hlt hlt' k h3 (hel ▸ h5)
        · exact hne i j hlt hj hgt k (hel ▸ h5) h3
      · have := ((h.has _ (List.getElem_mem hj)).2 k h3).1
        omega
    rcases Nat.decEq a i with hai | rfl
    · rw [List.getElem_set_ne (Ne.symm hai)] at h1
      rcases Nat.decEq b i with hbi | rfl
      · rw [List.getElem_set_ne (Ne.symm hbi)] at h2
        exact hne a b ha hb hab k h1 h2
      · rw [List.getElem_set_self] at h2
        exact key a (by simpa using ha) hai h1 h2
    · rw [List.getElem_set_self] at h1
      rw [List.getElem_set_ne (by omega)] at h2
      exact key b (by simpa using hb) (by omega) h2 h1
/-- A part of what is owned, in an order of its own; and the rest. -/
theorem perm (h : St W0 M W L) {L' : List Ent} (hp : L.Perm L') : St W0 M W L' :=
  ⟨h.kept, fun e he => h.has e (hp.mem_iff.2 he), (hp.pairwise_iff (fun {x y} hxy k h1 h2 => hxy k h2 h1)).1 h.ne⟩
theorem drop1 (h : St W0 M W (e :: L)) : St W0 M W L := ⟨h.kept, fun f hf => h.has f (List.mem_cons_of_mem _ hf), (List.pairwise_cons.1 h.ne).2⟩
theorem tail {F : List Ent} (h : St W0 M W (F ++ L)) : St W0 M W L := ⟨h.kept, fun f hf => h.has f (List.mem_append_right _ hf), (List.pairwise_append.1 h.ne).2.1⟩
theorem focus {F : List Ent} (h : St W0 M W (F ++ L)) : St W (owns F) W F :=
  ⟨.refl _ _, fun e he => ⟨(h.has e (List.mem_append_left _ he)).1, fun k hk => ⟨((h.has e (List.mem_append_left _ he)).2 k hk).1, .inl ⟨e, he, hk⟩⟩⟩, (List.pairwise_append.1 h.ne).1⟩
/-- Behind a call: what it had is as it says, the rest as it was. -/
theorem join {F G : List Ent} (h : St W0 M W (F ++ L)) (hc : St W (owns F) W' G) : St W0 M W' (G ++ L) := by
  have hF : ∀ k, owns F k → M k ∨ W0.heap.size ≤ k := fun k ⟨e, he, hk⟩ => ((h.has e (List.mem_append_left _ he)).2 k hk).2
  have hL : ∀ f ∈ L, ∀ k, f.own k → k < W.heap.size ∧ ¬ owns F k := fun f hf k hk =>
    ⟨((h.has f (List.mem_append_right _ hf)).2 k hk).1, fun ⟨e, he, hk'⟩ => (List.pairwise_append.1 h.ne).2.2 e he f hf k hk' hk⟩
  refine ⟨h.kept.trans hc.kept hF, fun f hf => ?_, List.pairwise_append.2 ⟨hc.ne, (List.pairwise_append.1 h.ne).2.1, fun f hf g hg k h1 h2 => ?_⟩⟩
  · rcases List.mem_append.1 hf with hf | hf
    · exact ⟨(hc.has f hf).1, fun k hk => ⟨((hc.has f hf).2 k hk).1, (((hc.has f hf).2 k hk).2).elim (hF k) (fun h3 => .inr (Nat.le_trans h.kept.size h3))⟩⟩
    · have h3 := h.has f (List.mem_append_right _ hf)
      exact ⟨f.loc W W' (fun k hk => hc.kept.block k (hL f hf k hk).1 (hL f hf k hk).2) h3.1, fun k hk => ⟨Nat.lt_of_lt_of_le (h3.2 k hk).1 hc.kept.size, (h3.2 k hk).2⟩⟩
  · have h3 := hL g hg k h2
    rcases ((hc.has f hf).2 k h1).2 with h4 | h4
    · exact h3.2 h4
    · omega
theorem cast_ {L2 : List Ent} (h : St W0 M W L) (e : L = L2) : St W0 M W L2 := e ▸ h
/-- Something is told otherwise. -/
theorem turn (h : St W0 M W L) {i : Nat} (hi : L[i]? = some e) (hP : e.P W → e'.P W) (ho : ∀ k, e'.own k → e.own k) : St W0 M W (L.set i e') :=
  h.upd hi (.refl _ _) (hP (h.get hi)) (fun k hk => ⟨.inl (ho k hk), h.lt hi (ho k hk)⟩)
theorem blkE (h : St W0 M W L) {i g t : Nat} {cs : List Value} (hi : L[i]? = some (blk g cs t)) : W.heap[g]? = some (.cells cs.toArray t (0, 0)) := h.get hi
/-- A cell of a block. -/
theorem cell (h : St W0 M W L) {i g t : Nat} {cs : List Value} (hi : L[i]? = some (blk g cs t)) {j : Nat} {v : Value} (hv : cs[j]? = some v) : W.cell? ⟨g, j, none⟩ = some v := by
  rw [cell_of_row W g j cs.toArray t (0, 0) (h.blkE hi)]
  simpa using hv
theorem rowE (h : St W0 M W L) {i n c t z : Nat} {A : Option Addr} {cs : List Value} (hi : L[i]? = some (row A n c cs t z)) : W.ownsRow 0 t z (.slice A n c) n cs := h.get hi
/-- A cell of a row. -/
theorem rcell (h : St W0 M W L) {i g n c t z : Nat} {cs : List Value} (hi : L[i]? = some (row (some ⟨g, 0, none⟩) n c cs t z)) {j : Nat} {v : Value} (hv : cs[j]? = some v) : W.cell? ⟨g, j, none⟩ = some v := by
  have := (h.rowE hi).cells (g := g) rfl j v hv
  rwa [show (⟨g, 0, none⟩ : Addr).add j = ⟨g, j, none⟩ by unfold Addr.add; split <;> simp_all] at this
theorem rsome (h : St W0 M W L) {i n c t z : Nat} {A : Option Addr} {cs : List Value} (hi : L[i]? = some (row A n c cs t z)) (hn : 0 < n) : ∃ g, A = some ⟨g, 0, none⟩ := by
  rcases (h.rowE hi).2 with ⟨_, h2⟩ | ⟨g, cap, cur, e, _⟩
  · omega
  · exact ⟨g, by cases e; rfl⟩
theorem rlen (h : St W0 M W L) {i n c t z : Nat} {A : Option Addr} {cs : List Value} (hi : L[i]? = some (row A n c cs t z)) : cs.length = n * z := (h.rowE hi).1
theorem rcap (h : St W0 M W L) {i n c t z : Nat} {A : Option Addr} {cs : List Value} (hi : L[i]? = some (row A n c cs t z)) : n ≤ c ∧ c ≤ maxLen := by
  rcases (h.rowE hi).2 with ⟨e, h2⟩ | ⟨g, cap, cur, e, _, _, h1, h2, _⟩
  · have : c = 0 := (by cases e; rfl)
    exact ⟨by omega, by omega⟩
  · have : c = cap := (by cases e; rfl)
    omega
end St
/-! ### frames -/
def Fr (l : List Value) : Act := ⟨l.toArray, []⟩
theorem Fr_put (l : List Value) (d : Nat) (v : Value) : (Fr l).put (some d) v = Fr (l.set d v) := by
  simp [Fr, Act.put]
section
variable {P : Program} {ops : Array Oper} {Q : Exit → Act → World → Prop} {R : Act → Prop} {rest : List Oper} {a : Act} {l : List Value} {W W' W0 : World} {M : Nat → Prop} {L : List Ent} {v : Value} {op : Op} {d : Nat} {ty : TypeId} {ps : String} {af : Array Edge} {gd : Option (Nat × Bool)} {dst : Option Nat}
/-- An operation that gives a value. -/
theorem qw (v : Value) (hw : Region.wanted ⟨some d, op, ty, ps, af, gd⟩ (yielded ops (Fr l).tmps) = true) (hr : (execOp (Fr l).eval ⟨some d, op, ty, ps, af, gd⟩).run P W = .ok (.value v) W')
    (h : wpList P ops Q rest (Fr (l.set d v)) W') : wpList P ops Q (⟨some d, op, ty, ps, af, gd⟩ :: rest) (Fr l) W := by
  refine wpList_step fun K hK => ?_
  rw [if_pos hw]; unfold Oper.wp; rw [hr]
  exact hK _ _ ((Fr_put l d v) ▸ h)
theorem ql (v : Value) (hw : Region.wanted ⟨some d, op, ty, ps, af, gd⟩ (yielded ops (Fr l).tmps) = true) (hr : (execOp (Fr l).eval ⟨some d, op, ty, ps, af, gd⟩).run P W = .ok (.value v) W)
    (h : wpList P ops Q rest (Fr (l.set d v)) W) : wpList P ops Q (⟨some d, op, ty, ps, af, gd⟩ :: rest) (Fr l) W := qw v hw hr h
theorem qs (v : Value) (hw : Region.wanted ⟨some d, op, ty, ps, af, gd⟩ (yielded ops (Fr l).tmps) = true) (hr : (execOp (Fr l).eval ⟨some d, op, ty, ps, af, gd⟩).run P W = .ok (.value v) W)
    (h : wpStill P ops W R rest (Fr (l.set d v))) : wpStill P ops W R (⟨some d, op, ty, ps, af, gd⟩ :: rest) (Fr l) := by
  refine wpStill_step fun K hK => ?_
  rw [if_pos hw]; unfold Oper.still; rw [hr]
  exact ⟨rfl, hK _ ((Fr_put l d v) ▸ h)⟩
/-- An operation that its guard leaves out. -/
theorem qln (hw : Region.wanted ⟨some d, op, ty, ps, af, gd⟩ (yielded ops (Fr l).tmps) = false) (h : wpList P ops Q rest (Fr (l.set d undef)) W) : wpList P ops Q (⟨some d, op, ty, ps, af, gd⟩ :: rest) (Fr l) W := by
  refine wpList_step fun K hK => ?_
  rw [if_neg (by rw [hw]; decide)]
  exact hK _ _ ((Fr_put l d undef) ▸ h)
/-- An operation without a value. -/
theorem qk (hw : Region.wanted ⟨none, op, ty, ps, af, gd⟩ (yielded ops (Fr l).tmps) = true) (hr : (execOp (Fr l).eval ⟨none, op, ty, ps, af, gd⟩).run P W = .ok .skip W')
    (h : wpList P ops Q rest (Fr l) W') : wpList P ops Q (⟨none, op, ty, ps, af, gd⟩ :: rest) (Fr l) W := by
  refine wpList_step fun K hK => ?_
  rw [if_pos hw]; unfold Oper.wp; rw [hr]
  exact hK _ _ h
/-- A call of a function. -/
theorem qc {f : FuncId} {args : Array Value} (hw : Region.wanted ⟨some d, op, ty, ps, af, gd⟩ (yielded ops (Fr l).tmps) = true) (hr : (execOp (Fr l).eval ⟨some d, op, ty, ps, af, gd⟩).run P W = .ok (.enter f args) W)
    (h : Calls P f args W fun e w' => ∃ v, e = .returned v ∧ wpList P ops Q rest (Fr (l.set d v)) w') : wpList P ops Q (⟨some d, op, ty, ps, af, gd⟩ :: rest) (Fr l) W := by
  refine wpList_step fun K hK => ?_
  rw [if_pos hw]; unfold Oper.wp; rw [hr]
  refine h.mono ?_
  rintro e w' ⟨v, rfl, hv⟩
  exact hK _ _ ((Fr_put l d v) ▸ hv)
theorem R_call {f : FuncId} {fn : Func} {as_ : Array Operand} {ts : Array TypeId} (args : Array Value) (hf : P.funcs[f]? = some fn) (hn : (fn.name == "runtime.NumGoroutine") = false) (hb : fn.body.isSome = true) (ha : as_.map a.eval = args) :
    (execOp a.eval ⟨dst, .call { callee := .value (.func f), args := as_, argTypes := ts }, ty, ps, af, gd⟩).run P W = .ok (.enter f args) W := by
  have hc : ¬ fn.body = none := by intro h; rw [h] at hb; cases hb
  have hm : ¬ fn.name = "runtime.NumGoroutine" := by simpa using hn
  have h0 : (program).run P W = .ok P W := rfl
  simp [execOp, resolve, Deferred.ofValue, invoke, Act.eval, ha, callFunc, h0, hf, hm, hc]
/-- A call of a closure. -/
theorem R_callv {f : FuncId} {fn : Func} {x : Operand} {caps : Array Value} {as_ : Array Operand} {ts : Array TypeId} (args : Array Value) (hx : a.eval x = .func (.func f) #[] caps) (hf : P.funcs[f]? = some fn) (hn : (fn.name == "runtime.NumGoroutine") = false) (hb : fn.body.isSome = true) (ha : as_.map a.eval ++ caps = args) :
    (execOp a.eval ⟨dst, .call { callee := .value x, args := as_, argTypes := ts }, ty, ps, af, gd⟩).run P W = .ok (.enter f args) W := by
  have hc : ¬ fn.body = none := by intro h; rw [h] at hb; cases hb
  have hm : ¬ fn.name = "runtime.NumGoroutine" := by simpa using hn
  have h0 : (program).run P W = .ok P W := rfl
  simp [execOp, resolve, Deferred.ofValue, invoke, hx, ← ha, callFunc, h0, hf, hm, hc]
theorem R_bool {x : World} {p : Prop} [Decidable p] {r : Result Next} (h : r = .ok (.value (.bool (decide p))) x) (hp : p) : r = .ok (.value (.bool true)) x := by rw [h, decide_eq_true hp]
theorem R_nbool {x : World} {p : Prop} [Decidable p] {r : Result Next} (h : r = .ok (.value (.bool (decide p))) x) (hp : ¬ p) : r = .ok (.value (.bool false)) x := by rw [h, decide_eq_false hp]
theorem R_beq {x : World} {b c : Bool} {r : Result Next} (h : r = .ok (.value (.bool b)) x) (hb : b = c) : r = .ok (.value (.bool c)) x := by rw [h, hb]
theorem R_int {x : World} {k : IntKind} {m n : Int} {r : Result Next} (h : r = .ok (.value (.int k m)) x) (e : m = n) : r = .ok (.value (.int k n)) x := by rw [h, e]
theorem R_eq {x : World} {u v : Value} {r : Result Next} (h : r = .ok (.value u) x) (e : u = v) : r = .ok (.value v) x := by rw [h, e]
theorem w64 {n : Int} (h : -9223372036854775808 ≤ n ∧ n ≤ 9223372036854775807) : IntKind.i64.wrap n = n := by rw [IntKind.wrap_i64]; omega
theorem w32 {n : Int} (h : -2147483648 ≤ n ∧ n ≤ 2147483647) : IntKind.i32.wrap n = n := by
  unfold IntKind.wrap IntKind.bits IntKind.signed; simp; omega
/-! reading -/
def aggB (P : Program) (t : TypeId) : Bool := match P.underlying t with | some (.struct _) => true | some (.array _ _) => true | some _ => false | none => true
def someB (P : Program) (t : TypeId) : Bool := (P.underlying t).isSome
theorem run_isAgg {t : TypeId} {b : Bool} (h : aggB P t = b) (hs : someB P t = true) : (isAgg t).run P W = .ok b W := by
  unfold aggB at h; unfold someB at hs
  cases hu : P.underlying t with
  | none => simp [hu] at hs
  | some u => rw [hu] at h; subst h; cases u <;> simp [isAgg, run_underlying hu]
theorem run_sizeOf {t n : Nat} (h : (P.info? t).map (·.size) = some n) : (sizeOf t).run P W = .ok n W := by
  cases hi : P.info? t with
  | none => rw [hi] at h; cases h
  | some i => rw [hi] at h; simp only [Option.map_some, Option.some.injEq] at h; simp [sizeOf, typeInfo, hi, h]
theorem R_load {t : TypeId} {x : Operand} {p : Addr} {v : Value} (hx : a.eval x = .pointer (some p)) (hu : aggB P t = false) (hs : someB P t = true) (hc : W.cell? p = some v) :
    (execOp a.eval ⟨dst, .load t x, ty, ps, af, gd⟩).run P W = .ok (.value v) W := by
  simp [execOp, Instr.loadAt, hx, Instr.sureAddr, loadVar, run_isAgg hu hs, load, Sem.run, hc]
theorem R_loadN {t : TypeId} {x : Operand} {p : Addr} (cs : List Value) (hx : a.eval x = .pointer (some p)) (hu : aggB P t = true) (hs : someB P t = true) (hn : (P.info? t).map (·.size) = some cs.length) (hc : ∀ j v, cs[j]? = some v → W.cell? (p.add j) = some v) :
    (execOp a.eval ⟨dst, .load t x, ty, ps, af, gd⟩).run P W = .ok (.value (.agg cs.toArray)) W := by
  simp [execOp, Instr.loadAt, hx, Instr.sureAddr, loadVar, run_isAgg hu hs, run_sizeOf hn, run_loadCells_list W p cs hc]
theorem two_at {g o : Nat} {u v : Value} (h0 : W.cell? ⟨g, o, none⟩ = some u) (h1 : W.cell? ⟨g, o + 1, none⟩ = some v) : ∀ j x, [u, v][j]? = some x → W.cell? ((⟨g, o, none⟩ : Addr).add j) = some x := by
  intro j x hx; rw [Addr.add_lit]
  match j, hx with
  | 0, hx => cases hx; exact h0
  | 1, hx => cases hx; exact h1
  | n + 2, hx => simp at hx
theorem R_index {t : TypeId} {x y : Operand} {g n c z e : Nat} {k : IntKind} {i : Int} (hx : a.eval x = .slice (some ⟨g, 0, none⟩) n c) (hy : a.eval y = .int k i) (ht : P.underlying t = some (.slice e)) (hz : (P.info? e).map (·.size) = some z) (h0 : 0 ≤ i) (h1 : i < n) :
    (execOp a.eval ⟨dst, .indexAddr t x y, ty, ps, af, gd⟩).run P W = .ok (.value (.pointer (some ⟨g, i.toNat * z, none⟩))) W := by
  simp [execOp, Instr.indexAt, hx, hy, asIntOf, run_underlying ht, run_sizeOf hz, h0, h1, Addr.add_lit]
theorem R_index1 {t : TypeId} {x y : Operand} {g n c e : Nat} {k : IntKind} {i : Int} (hx : a.eval x = .slice (some ⟨g, 0, none⟩) n c) (hy : a.eval y = .int k i) (ht : P.underlying t = some (.slice e)) (hz : (P.info? e).map (·.size) = some 1) (h0 : 0 ≤ i) (h1 : i < n) :
    (execOp a.eval ⟨dst, .indexAddr t x y, ty, ps, af, gd⟩).run P W = .ok (.value (.pointer (some ⟨g, i.toNat, none⟩))) W := by
  rw [R_index hx hy ht hz h0 h1, Nat.mul_one]
/-- An element of a slice that begins anywhere. -/
theorem R_indexA {t : TypeId} {x y : Operand} {p : Addr} {n c z e : Nat} {k : IntKind} {i : Int} (hx : a.eval x = .slice (some p) n c) (hy : a.eval y = .int k i) (ht : P.underlying t = some (.slice e)) (hz : (P.info? e).map (·.size) = some z) (h0 : 0 ≤ i) (h1 : i < n) :
    (execOp a.eval ⟨dst, .indexAddr t x y, ty, ps, af, gd⟩).run P W = .ok (.value (.pointer (some (p.add (i.toNat * z))))) W := by
  simp [execOp, Instr.indexAt, hx, hy, asIntOf, run_underlying ht, run_sizeOf hz, h0, h1]
theorem run_sliceBound {k : IntKind} {i : Int} {y : Nat} {code : BoundsCode} (h0 : 0 ≤ i) (h1 : i ≤ y) : (Instr.sliceBound (.int k i) y code).run P W = .ok i.toNat W := by
  simp [Instr.sliceBound, asIntOf, h0, h1]
/-- Where a slice's rest begins. -/
def cutA (A : Option Addr) (c m z : Nat) : Option Addr := if c = m then A else A.map (·.add (m * z))
/-- A slice's head: s[:h]. -/
theorem R_sliceH {t : TypeId} {x y : Operand} {A : Option Addr} {n c z e : Nat} {k : IntKind} {i : Int} (hx : a.eval x = .slice A n c) (hy : a.eval y = .int k i) (ht : P.underlying t = some (.slice e)) (hz : (P.info? e).map (·.size) = some z) (h0 : 0 ≤ i) (h1 : i ≤ c) :
    (execOp a.eval ⟨dst, .slice t x none (some y) none, ty, ps, af, gd⟩).run P W = .ok (.value (.slice A i.toNat c)) W := by
  by_cases hc : c = 0
  · simp [execOp, Instr.sliceAt, Instr.slice, Instr.sliceBounds, run_sliceBound h0 h1, hx, hy, run_underlying ht, run_sizeOf hz, hc]
    simp [hc] at h1
    cases (show i = 0 by omega)
    simp [Instr.sliceBound, asIntOf]
  · cases A <;> simp [execOp, Instr.sliceAt, Instr.slice, Instr.sliceBounds, run_sliceBound h0 h1, hx, hy, run_underlying ht, run_sizeOf hz, hc, Addr.add_zero']
/-- A slice's rest: s[l:]. -/
theorem R_sliceL {t : TypeId} {x y : Operand} {A : Option Addr} {n c z e : Nat} {k : IntKind} {i : Int} (hx : a.eval x = .slice A n c) (hy : a.eval y = .int k i) (ht : P.underlying t = some (.slice e)) (hz : (P.info? e).map (·.size) = some z) (h0 : 0 ≤ i) (h1 : i ≤ n) :
    (execOp a.eval ⟨dst, .slice t x (some y) none none, ty, ps, af, gd⟩).run P W = .ok (.value (.slice (cutA A c i.toNat z) (n - i.toNat) (c - i.toNat))) W := by
  simp [execOp, Instr.sliceAt, Instr.slice, Instr.sliceBounds, run_sliceBound h0 h1, hx, hy, run_underlying ht, run_sizeOf hz, cutA]
/-- A piece: s[l:h]. -/
theorem R_sliceLH {t : TypeId} {x y y2 : Operand} {A : Option Addr} {n c z e : Nat} {k k2 : IntKind} {i i2 : Int} (hx : a.eval x = .slice A n c) (hy : a.eval y = .int k i) (hy2 : a.eval y2 = .int k2 i2) (ht : P.underlying t = some (.slice e)) (hz : (P.info? e).map (·.size) = some z) (h0 : 0 ≤ i) (h1 : i ≤ i2) (h2 : i2 ≤ c) :
    (execOp a.eval ⟨dst, .slice t x (some y) (some y2) none, ty, ps, af, gd⟩).run P W = .ok (.value (.slice (cutA A c i.toNat z) (i2.toNat - i.toNat) (c - i.toNat))) W := by
  simp [execOp, Instr.sliceAt, Instr.slice, Instr.sliceBounds, run_sliceBound h0 (show i ≤ ((i2.toNat : Nat) : Int) by omega), run_sliceBound (show 0 ≤ i2 by omega) h2, hx, hy, hy2, run_underlying ht, run_sizeOf hz, cutA]
end
/-! ### what changes the world -/
def splice (cs : List Value) (j : Nat) : List Value → List Value
  | [] => cs
  | v :: vs => splice (cs.set j v) (j + 1) vs
theorem splice_length : ∀ (vs cs : List Value) (j : Nat), (splice cs j vs).length = cs.length
  | [], _, _ => rfl
  | v :: vs, cs, j => by rw [splice, splice_length vs]; simp
theorem splice_eq : ∀ (vs cs : List Value) (j : Nat), j + vs.length ≤ cs.length → splice cs j vs = cs.take j ++ vs ++ cs.drop (j + vs.length)
  | [], cs, j, h => by simp [splice]
  | v :: vs, cs, j, h => by
    simp only [List.length_cons] at h ⊢
    rw [splice, splice_eq vs _ _ (by simp; omega), List.take_set, List.drop_set_of_lt (by omega)]
    have hj : j < cs.length := by omega
    rw [List.take_succ_eq_append_getElem hj]
    have h1 : (List.take j cs ++ [cs[j]]).set j v = List.take j cs ++ [v] := by
      rw [List.set_append_right _ _ (by simp; omega)]
      simp [List.length_take, Nat.min_eq_left (Nat.le_of_lt hj)]
    rw [h1]
    simp [Nat.add_assoc, Nat.add_comm 1]
section
variable {P : Program} {ops : Array Oper} {Q : Exit → Act → World → Prop} {R : Act → Prop} {rest : List Oper} {a : Act} {l : List Value} {W W' W0 : World} {M : Nat → Prop} {L : List Ent} {v : Value} {op : Op} {d : Nat} {ty : TypeId} {ps : String} {af : Array Edge} {gd : Option (Nat × Bool)} {dst : Option Nat}
theorem R_store {t : TypeId} {x y : Operand} {g j tb : Nat} {cs : List Value} {v : Value} (news : List Value) (hg : W.heap[g]? = some (.cells cs.toArray tb (0, 0))) (hx : a.eval x = .pointer (some ⟨g, j, none⟩)) (hy : a.eval y = v) (hv : v.cells = news.toArray)
    (hn : (P.info? t).map (·.size) = some news.length) (h1 : ∀ u ∈ news, u.oneCell' = true) (hfit : j + news.length ≤ cs.length) :
    (execOp a.eval ⟨dst, .store t x y, ty, ps, af, gd⟩).run P W = .ok .skip (W.setRow g (splice cs j news).toArray) := by
  have h2 := run_storeCells_at (P := P) g j tb news 0 cs.toArray W hg (by simpa using hfit) h1
  rw [splice_eq _ _ _ hfit]
  simp only [Nat.add_zero] at h2
  simp [execOp, Instr.storeAt, hx, hy, Instr.sureAddr, storeVar, hv, run_sizeOf hn, h2]
theorem St.setBlk (HS : St W0 M W L) {i g tb : Nat} {cs cs' : List Value} (hi : L[i]? = some (blk g cs tb)) : St W0 M (W.setRow g cs'.toArray) (L.set i (blk g cs' tb)) :=
  HS.upd hi (.setRow _ _ _ rfl) (setRow_heap W g _ _ tb _ (HS.blkE hi)) (fun k hk => ⟨.inl hk, by have := HS.lt hi hk; simpa [World.setRow] using this⟩)
/-- A store into a block. -/
theorem ks {t : TypeId} {x y : Operand} {v : Value} (HS : St W0 M W L) (i : Nat) {g tb : Nat} {cs : List Value} (hi : L[i]? = some (blk g cs tb)) (j : Nat) (news : List Value) (hw : Region.wanted ⟨dst, .store t x y, ty, ps, af, gd⟩ (yielded ops (Fr l).tmps) = true)
    (hx : (Fr l).eval x = .pointer (some ⟨g, j, none⟩)) (hy : (Fr l).eval y = v) (hv : v.cells = news.toArray) (hn : (P.info? t).map (·.size) = some news.length) (h1 : ∀ u ∈ news, u.oneCell' = true) (hfit : j + news.length ≤ cs.length) (hd : dst = none)
    (h : ∀ W', St W0 M W' (L.set i (blk g (splice cs j news) tb)) → wpList P ops Q rest (Fr l) W') : wpList P ops Q (⟨dst, .store t x y, ty, ps, af, gd⟩ :: rest) (Fr l) W := by
  subst hd
  exact qk hw (R_store news (HS.blkE hi) hx hy hv hn h1 hfit) (h _ (HS.setBlk hi))
theorem St.setRow_ (HS : St W0 M W L) {i g n c t z : Nat} {cs : List Value} (hi : L[i]? = some (row (some ⟨g, 0, none⟩) n c cs t z)) (j : Nat) (news : List Value) (hfit : j + news.length ≤ cs.length) :
    ∃ cur : List Value, W.heap[g]? = some (.cells cur.toArray t (0, 0)) ∧ cs.length ≤ cur.length ∧ St W0 M (W.setRow g (splice cur j news).toArray) (L.set i (row (some ⟨g, 0, none⟩) n c (splice cs j news) t z)) := by
  have hr := HS.rowE hi
  rcases hr.2 with ⟨e, _⟩ | ⟨g', cap, cur, e, hb, hg, h1, h2, h3, h4⟩
  · cases e
  · cases e
    have hl : cs.length = n * z := hr.1
    have hle : n * z ≤ cur.size := by rw [h3]; exact Nat.mul_le_mul_right _ h1
    have hsz : (splice cur.toList j news).length = cur.size := by rw [splice_length]; simp
    refine ⟨cur.toList, by simpa using hg, by rw [hl]; simpa using hle, HS.upd hi (.setRow _ _ _ rfl) ⟨by rw [splice_length]; exact hl, .inr ⟨g, c, _, rfl, Nat.zero_le _, setRow_heap W g _ _ t _ hg, h1, h2, by simpa [hsz] using h3, ?_⟩⟩ (fun k hk => ⟨.inl hk, by have := HS.lt hi hk; simpa [World.setRow] using this⟩)⟩
    show (splice cur.toList j news).take (n * z) = _
    have hfit2 : j + news.length ≤ cur.toList.length := by simp; omega
    rw [splice_eq _ _ _ hfit2, splice_eq _ _ _ hfit, ← h4, List.take_append, List.take_append]
    have e1 : (List.take j cur.toList).length = j := by simp at hfit2 ⊢; omega
    have e2 : List.take (n * z) (List.take j cur.toList) = List.take j (List.take (n * z) cur.toList) := by rw [List.take_take, List.take_take]; congr 1; omega
    have e3 : List.take (n * z - (List.take j cur.toList).length) news = news := by rw [e1]; exact List.take_of_length_le (by omega)
    rw [e2, e3, List.drop_take]
    congr 2
    simp [List.length_append, e1]
    try omega
/-- A store into a row. -/
theorem kr {t : TypeId} {x y : Operand} {v : Value} (HS : St W0 M W L) (i : Nat) {g n c tb z : Nat} {cs : List Value} (hi : L[i]? = some (row (some ⟨g, 0, none⟩) n c cs tb z)) (j : Nat) (news : List Value) (hw : Region.wanted ⟨dst, .store t x y, ty, ps, af, gd⟩ (yielded ops (Fr l).tmps) = true)
    (hx : (Fr l).eval x = .pointer (some ⟨g, j, none⟩)) (hy : (Fr l).eval y = v) (hv : v.cells = news.toArray) (hn : (P.info? t).map (·.size) = some news.length) (h1 : ∀ u ∈ news, u.oneCell' = true) (hfit : j + news.length ≤ cs.length) (hd : dst = none)
    (h : ∀ W', St W0 M W' (L.set i (row (some ⟨g, 0, none⟩) n c (splice cs j news) tb z)) → wpList P ops Q rest (Fr l) W') : wpList P ops Q (⟨dst, .store t x y, ty, ps, af, gd⟩ :: rest) (Fr l) W := by
  subst hd
  obtain ⟨cur, hg, hle, HS2⟩ := HS.setRow_ hi j news hfit
  exact qk hw (R_store news hg hx hy hv hn h1 (by omega)) (h _ HS2)
/-- A new block: alloc, box, a literal's. -/
theorem kb (HS : St W0 M W L) (cs : List Value) (t : Nat) (g0 : Nat → Value) (hw : Region.wanted ⟨some d, op, ty, ps, af, gd⟩ (yielded ops (Fr l).tmps) = true)
    (hr : (execOp (Fr l).eval ⟨some d, op, ty, ps, af, gd⟩).run P W = .ok (.value (g0 W.heap.size)) (W.alloc (.cells cs.toArray t)))
    (h : ∀ g W', St W0 M W' (blk g cs t :: L) → wpList P ops Q rest (Fr (l.set d (g0 g))) W') : wpList P ops Q (⟨some d, op, ty, ps, af, gd⟩ :: rest) (Fr l) W :=
  qw _ hw hr (h _ _ (HS.newBlk cs t))
theorem row_new (W : World) (n c : Nat) (cs cur : List Value) (t z : Nat) (h1 : cs.length = n * z) (h2 : cur.length = c * z) (h3 : n ≤ c) (h4 : c ≤ maxLen) (h5 : cur.take (n * z) = cs) : (row (some ⟨W.heap.size, 0, none⟩) n c cs t z).P (W.alloc (.cells cur.toArray t)) :=
  ⟨h1, .inr ⟨_, _, _, rfl, Nat.zero_le _, heap_alloc_new _ _, h3, h4, by simpa using h2, by simpa using h5⟩⟩
theorem St.newRow (HS : St W0 M W L) (n c : Nat) (cs cur : List Value) (t z : Nat) (h1 : cs.length = n * z) (h2 : cur.length = c * z) (h3 : n ≤ c) (h4 : c ≤ maxLen) (h5 : cur.take (n * z) = cs) : St W0 M (W.alloc (.cells cur.toArray t)) (row (some ⟨W.heap.size, 0, none⟩) n c cs t z :: L) :=
  HS.new (.alloc _ _) (row_new W n c cs cur t z h1 h2 h3 h4 h5) (fun k hk => by simp [row, Value.ownBlock] at hk; subst hk; exact ⟨Nat.le_refl _, by simp⟩)
/-- A literal slice. -/
theorem kl (HS : St W0 M W L) (n : Nat) (cs : List Value) (t z : Nat) (hw : Region.wanted ⟨some d, op, ty, ps, af, gd⟩ (yielded ops (Fr l).tmps) = true)
    (hr : (execOp (Fr l).eval ⟨some d, op, ty, ps, af, gd⟩).run P W = .ok (.value (.slice (some ⟨W.heap.size, 0, none⟩) n n)) (W.alloc (.cells cs.toArray t))) (h1 : cs.length = n * z) (h2 : n ≤ 140737488355327)
    (h : ∀ g W', St W0 M W' (row (some ⟨g, 0, none⟩) n n cs t z :: L) → wpList P ops Q rest (Fr (l.set d (.slice (some ⟨g, 0, none⟩) n n))) W') : wpList P ops Q (⟨some d, op, ty, ps, af, gd⟩ :: rest) (Fr l) W :=
  qw _ hw hr (h _ _ (HS.newRow n n cs cs t z h1 h1 (Nat.le_refl _) (by unfold maxLen; omega) (List.take_of_length_le (by omega))))
theorem madeCells_list (zs : List Value) (n : Nat) (hz : 0 < zs.length) : madeCells zs.toArray (n * zs.length) = ((List.replicate n zs).flatten).toArray := by
  apply Array.ext'
  simp only [madeCells]
  apply List.ext_getElem?
  intro j
  have hlen : ((List.replicate n zs).flatten).length = n * zs.length := by simp
  rcases Nat.lt_or_ge j (n * zs.length) with hj | hj
  · have hm : j % zs.length < zs.length := Nat.mod_lt _ hz
    simp only [Array.toList_map, Array.toList_range, List.getElem?_map, List.getElem?_range hj, Option.map_some]
    have key : ∀ (n j : Nat), j < n * zs.length → ((List.replicate n zs).flatten)[j]? = zs[j % zs.length]? := by
      intro n
      induction n with
      | zero => intro j hj; omega
      | succ n ih =>
        intro j hj
        rw [List.replicate_succ, List.flatten_cons]
        rcases Nat.lt_or_ge j zs.length with h1 | h1
        · rw [List.getElem?_append_left h1, Nat.mod_eq_of_lt h1]
        · rw [List.getElem?_append_right h1, ih (j - zs.length) (by rw [Nat.add_mul, Nat.one_mul] at hj; omega), Nat.mod_eq_sub_mod h1]
    rw [key n j hj, List.getElem?_eq_getElem hm]
    simp [hm]
  · rw [List.getElem?_eq_none (by simpa using hj), List.getElem?_eq_none (by simpa using hj)]
theorem zeroV {e : TypeId} {zs : List Value} (hz : ((P.info? e).bind (·.zero)).map (·.cells) = some zs.toArray) : ∃ i zv, P.info? e = some i ∧ i.zero = some zv ∧ zv.cells = zs.toArray := by
  cases hi : P.info? e with
  | none => rw [hi] at hz; cases hz
  | some i =>
    rw [hi] at hz
    simp only [Option.bind_some] at hz
    cases hv : i.zero with
    | none => rw [hv] at hz; cases hz
    | some zv => rw [hv] at hz; exact ⟨i, zv, rfl, hv, by simpa using hz⟩
/-- make([]T, n). -/
theorem km {t : TypeId} {x y : Operand} {e : Nat} {k1 k2 : IntKind} (HS : St W0 M W L) (n : Nat) (zs : List Value) (by_ : Nat) (hw : Region.wanted ⟨some d, .makeSlice t x y, ty, ps, af, gd⟩ (yielded ops (Fr l).tmps) = true)
    (hx : (Fr l).eval x = .int k1 (n : Int)) (hy : (Fr l).eval y = .int k2 (n : Int)) (ht : P.underlying t = some (.slice e)) (hz : ((P.info? e).bind (·.zero)).map (·.cells) = some zs.toArray) (hs : (P.info? e).map (·.size) = some zs.length) (hb : (P.info? e).map (·.bytes) = some by_) (h0 : 0 < zs.length) (hn : n ≤ 140737488355327) (hm : by_ * n ≤ 281474976710656)
    (h : ∀ g W', St W0 M W' (row (some ⟨g, 0, none⟩) n n ((List.replicate n zs).flatten) e zs.length :: L) → wpList P ops Q rest (Fr (l.set d (.slice (some ⟨g, 0, none⟩) n n))) W') : wpList P ops Q (⟨some d, .makeSlice t x y, ty, ps, af, gd⟩ :: rest) (Fr l) W := by
  obtain ⟨i, zv, hi, hzv, hc⟩ := zeroV hz
  rw [hi] at hs hb
  have hs' : i.size = zs.length := by simpa using hs
  have hb' : i.bytes = by_ := by simpa using hb
  have hr := run_make (P := P) W t e i zv ht hi hzv k1 k2 (n : Int) (n : Int) (by omega) (Int.le_refl _) (by rw [hb', ← Int.natCast_mul]; omega) (by omega)
  rw [hc, hs', Int.toNat_natCast, madeCells_list zs n h0] at hr
  refine qw (W' := W.alloc (.cells ((List.replicate n zs).flatten).toArray e)) (.slice (some ⟨W.heap.size, 0, none⟩) n n) hw ?_ (h _ _ (HS.newRow n n _ _ e zs.length (by simp) (by simp) (Nat.le_refl _) (by unfold maxLen; omega) (List.take_of_length_le (by simp))))
  simp [execOp, hx, hy, hr]
/-- What is appended. -/
structure Src (W : World) (x : Value) (m z : Nat) (news : List Value) : Prop where
  val : ∃ A c, x = .slice A m c ∧ ((A = none ∧ m = 0) ∨ ∃ ad, A = some ad ∧ ∀ j u, news[j]? = some u → W.cell? (ad.add j) = some u)
  len : news.length = m * z
  one : ∀ u ∈ news, u.oneCell' = true
theorem Src.of_row (HS : St W0 M W L) {i n c t z : Nat} {A : Option Addr} {cs : List Value} (hi : L[i]? = some (row A n c cs t z)) (h1 : ∀ u ∈ cs, u.oneCell' = true) : Src W (.slice A n c) n z cs := by
  refine ⟨⟨A, c, rfl, ?_⟩, HS.rlen hi, h1⟩
  rcases (HS.rowE hi).2 with ⟨e, h2⟩ | ⟨g, cap, cur, e, _⟩
  · cases e; exact .inl ⟨rfl, rfl⟩
  · cases e; exact .inr ⟨_, rfl, (HS.rowE hi).cells rfl⟩
theorem run_append_none {t ty' e : TypeId} {i : TypeInfo} (ht : P.underlying t = some (.slice e)) (hi : P.info? e = some i) (A : Option Addr) (n c c2 : Nat) (hc : n ≤ c) (hc2 : c ≤ 9223372036854775807) :
    (Builtin.append_ #[t, t] ty' #[.slice A n c, .slice none 0 c2]).run P W = .ok (.slice A n c) W := by
  cases A <;> simp [Builtin.append_, run_underlying ht, sizeOf, typeInfo, hi, Builtin.lenOf, hc, Builtin.firstCells, storeCells]
theorem append_own {t ty' e : TypeId} (HS : St W0 M W L) {i n c z : Nat} {A : Option Addr} {cs : List Value} (hi : L[i]? = some (row A n c cs e z)) (zs : List Value) (by_ : Nat) {x : Value} {m : Nat} {news : List Value} (hsrc : Src W x m z news)
    (ht : P.underlying t = some (.slice e)) (hz : ((P.info? e).bind (·.zero)).map (·.cells) = some zs.toArray) (hzl : zs.length = z) (hs : (P.info? e).map (·.size) = some z) (hb : (P.info? e).map (·.bytes) = some by_) (h0 : 0 < z) (h63 : n + m ≤ 140737488355327) (hbytes : (n + m) * by_ ≤ 140737488355328) :
    ∃ A' c' W', (Builtin.append_ #[t, t] ty' #[.slice A n c, x]).run P W = .ok (.slice A' (n + m) c') W' ∧ St W0 M W' (L.set i (row A' (n + m) c' (cs ++ news) e z)) ∧ Kpt (row A n c cs e z).own W W' := by
  obtain ⟨ti, zv, hti, hzv, hc⟩ := zeroV hz
  rw [hti] at hs hb
  have hs' : ti.size = z := by simpa using hs
  have hb' : ti.bytes = by_ := by simpa using hb
  obtain ⟨B, c2, rfl, hB⟩ := hsrc.val
  have hr := HS.rowE hi
  rcases hB with ⟨rfl, rfl⟩ | ⟨ad, rfl, hcell⟩
  · have hn : news = [] := List.eq_nil_of_length_eq_zero (by rw [hsrc.len]; omega)
    subst hn
    have hcap := HS.rcap hi
    refine ⟨A, c, W, run_append_none ht hti A n c c2 hcap.1 (by have := hcap.2; unfold maxLen at this; omega), ?_⟩
    rw [Nat.add_zero, List.append_nil]
    exact ⟨HS.turn hi id (fun _ h => h), .refl _ _⟩
  · obtain ⟨v', w', hrun, hown, hgr, _, hat⟩ := run_append_own_at W 0 t ty' e ti zv z by_ ht hti hzv hs' hb' (by rw [hc]; simpa using hzl) h0 _ n cs hr ad m c2 news hsrc.len hcell hsrc.one (by unfold maxLen; omega) hbytes (Nat.zero_le _)
    have hv : ∃ A' c', v' = .slice A' (n + m) c' := by
      rcases hown.2 with ⟨e, h⟩ | ⟨g, cap, cur, e, _⟩
      · exact ⟨none, 0, by rw [e, h]⟩
      · exact ⟨_, _, e⟩
    obtain ⟨A', c', rfl⟩ := hv
    refine ⟨A', c', w', hrun, HS.upd hi (e' := row A' (n + m) c' (cs ++ news) e z) (.of_grown hgr (fun k hk => hk)) hown (fun k hk => ⟨?_, (hown.lt k hk).2⟩), .of_grown hgr (fun k hk => hk)⟩
    have hk' : (Value.slice A' (n + m) c').ownBlock = some k := hk
    rcases hat with h | h
    · exact .inl (show (Value.slice A n c).ownBlock = some k from h ▸ hk')
    · rw [h] at hk'
      exact .inr (Nat.le_of_eq (Option.some.inj hk'))
theorem St.nilRow (HS : St W0 M W L) (t z : Nat) : St W0 M W (row none 0 0 [] t z :: L) :=
  HS.new (.refl _ _) (World.ownsRow_nil W 0 t z) (fun k hk => by cases hk)
theorem R_append {t : TypeId} {s x : Operand} {u v : Value} {r : Value} (hs : a.eval s = u) (hx : a.eval x = v) (h : (Builtin.append_ #[t, t] ty #[u, v]).run P W = .ok r W') :
    (execOp a.eval ⟨dst, .call { callee := .builtin .append, args := #[s, x], argTypes := #[t, t] }, ty, ps, af, gd⟩).run P W = .ok (.value r) W' := by
  simp [execOp, resolve, invoke, builtin, hs, hx, h]
/-- append to a row of one's own. -/
theorem ka {t e : TypeId} {s x : Operand} (HS : St W0 M W L) (i : Nat) {n c z m : Nat} {A : Option Addr} {cs news : List Value} {xv : Value} (hi : L[i]? = some (row A n c cs e z)) (hsrc : Src W xv m z news) (zs : List Value) (by_ : Nat)
    (hw : Region.wanted ⟨some d, .call { callee := .builtin .append, args := #[s, x], argTypes := #[t, t] }, ty, ps, af, gd⟩ (yielded ops (Fr l).tmps) = true)
    (hs : (Fr l).eval s = .slice A n c) (hx : (Fr l).eval x = xv)
    (ht : P.underlying t = some (.slice e)) (hz : ((P.info? e).bind (·.zero)).map (·.cells) = some zs.toArray) (hzl : zs.length = z) (hsz : (P.info? e).map (·.size) = some z) (hb : (P.info? e).map (·.bytes) = some by_) (h0 : 0 < z) (h63 : n + m ≤ 140737488355327) (hbytes : (n + m) * by_ ≤ 140737488355328)
    (h : ∀ A' c' W', St W0 M W' (L.set i (row A' (n + m) c' (cs ++ news) e z)) → wpList P ops Q rest (Fr (l.set d (.slice A' (n + m) c'))) W') :
    wpList P ops Q (⟨some d, .call { callee := .builtin .append, args := #[s, x], argTypes := #[t, t] }, ty, ps, af, gd⟩ :: rest) (Fr l) W := by
  obtain ⟨A', c', W', hrun, HS', _⟩ := append_own (ty' := ty) HS hi zs by_ hsrc ht hz hzl hsz hb h0 h63 hbytes
  exact qw _ hw (R_append hs hx hrun) (h _ _ _ HS')
/-! the code -/
/-- A drawn region whose first n rows only read. -/
theorem rg_still {id : Nat} {ol : List Oper} (HS : St W0 M W L) (n : Nat) (hm : P.follows .mixedOrders = true) (hB : Region.lexTailB .any ol.toArray n = true)
    (h : ∀ W', St W0 M W' L → Kpt (fun _ => False) W W' → wpStill P ol.toArray W' (fun a' => wpList P ol.toArray Q (ol.drop n) a' W') (ol.take n) a) : (Code.region id ol.toArray true).wp P Q a W :=
  wp_region_still_tail n hm hB (h _ (HS.drew _) (.drew _ _))
theorem calls_enter {f : FuncId} {fn : Func} {c : Code} {args : Array Value} {w : World} {R : Ending → World → Prop} (fl : List Value) (hf : P.funcs[f]? = some fn) (hb : fn.body = some c) (ha : (args.toList ++ List.replicate (fn.ntmps - args.size) undef) = fl)
    (h : c.wp P (bodyPost P fn R) (Fr fl) w) : Calls P f args w R := by
  refine calls_of_wp hf hb ?_
  have e : (args ++ Array.replicate (fn.ntmps - args.size) undef) = fl.toArray := by rw [← ha]; apply Array.ext'; simp
  rw [e]; exact h
theorem ret_ {fn : Func} {R : Ending → World → Prop} (v : Value) (hr : (results fn (Fr l).tmps).run P W = .ok v W) (h : R (.returned v) W) : bodyPost P fn R .ret (Fr l) W := ⟨rfl, v, hr, h⟩
theorem end_ {fn : Func} {R : Ending → World → Prop} (v : Value) (hr : (results fn (Fr l).tmps).run P W = .ok v W) (h : R (.returned v) W) : bodyPost P fn R .normal (Fr l) W := ⟨rfl, v, hr, h⟩
end

/-! ### small words -/
section
variable {P : Program} {Q : Exit → Act → World → Prop} {next : Act → World → Prop} {a : Act} {l : List Value} {W W' W0 : World} {M : Nat → Prop} {L : List Ent} {id j : Nat}
theorem x_then (h : next a W) : Exit.then next Q .normal a W := h
theorem x_thenE (h : Q (.exit id) a W) : Exit.then next Q (.exit id) a W := h
theorem x_thenR (h : Q .ret a W) : Exit.then next Q .ret a W := h
theorem x_inb (h : Q .normal a W) : Exit.inBlock id Q .normal a W := h
theorem x_inbR (h : Q .ret a W) : Exit.inBlock id Q .ret a W := h
theorem x_hit (h : Q .normal a W) : Exit.inBlock id Q (.exit id) a W := by simpa [Exit.inBlock] using h
theorem one_ {news : List Value} (h : news.all (·.oneCell') = true) : ∀ u ∈ news, u.oneCell' = true := List.all_eq_true.1 h
theorem beq_t {x y : Int} (h : x = y) : (x == y) = true := beq_iff_eq.2 h
theorem beq_f {x y : Int} (h : ¬ x = y) : (x == y) = false := beq_eq_false_iff_ne.2 h
theorem bne_t {x y : Int} (h : ¬ x = y) : (x != y) = true := bne_iff_ne.2 h
theorem bne_f {x y : Int} (h : x = y) : (x != y) = false := by simp [h]
theorem k_eq {x : Value} {k : IntKind} {m n : Int} (h : x = .int k m) (e : m = n) : x = .int k n := e ▸ h
theorem owns_nil (k : Nat) : ¬ owns [] k := fun ⟨_, h, _⟩ => nomatch h
/-- A cell that was there, of what nothing writes. -/
theorem St.old (HS : St W0 M W L) {p : Addr} {v : Value} (hM : ¬ M p.block) (h : W0.cell? p = some v) : W.cell? p = some v :=
  (World.cell?_of_block (HS.kept.block p.block (World.block_lt_of_cell? W0 p h) hM)).trans h
theorem St.old0 (HS : St W0 (owns []) W L) {p : Addr} {v : Value} (h : W0.cell? p = some v) : W.cell? p = some v := HS.old (owns_nil _) h
/-- Cells that are read. -/
def Rd (W : World) (A : Option Addr) (cs : List Value) : Prop := ∀ j v, cs[j]? = some v → ∃ ad, A = some ad ∧ W.cell? (ad.add j) = some v
theorem Rd.below {A : Option Addr} {cs : List Value} (h : Rd W A cs) (hb : Below W.heap.size W W') : Rd W' A cs := fun j v hv =>
  let ⟨ad, e, hc⟩ := h j v hv; ⟨ad, e, (hb.cell (World.block_lt_of_cell? W _ hc)).trans hc⟩
theorem Rd.old0 {A : Option Addr} {cs : List Value} (h : Rd W0 A cs) (HS : St W0 (owns []) W L) : Rd W A cs := fun j v hv =>
  let ⟨ad, e, hc⟩ := h j v hv; ⟨ad, e, HS.old0 hc⟩
theorem Rd.isSome_ {A : Option Addr} {cs : List Value} (h : Rd W A cs) (hn : 0 < cs.length) : ∃ ad, A = some ad := by
  obtain ⟨ad, e, _⟩ := h 0 _ (List.getElem?_eq_getElem hn); exact ⟨ad, e⟩
theorem Rd.at_ {ad : Addr} {cs : List Value} (h : Rd W (some ad) cs) {j : Nat} {v : Value} (hv : cs[j]? = some v) : W.cell? (ad.add j) = some v := by
  obtain ⟨_, e, hc⟩ := h j v hv; cases e; exact hc
theorem Rd.row (HS : St W0 M W L) {i n c t z : Nat} {A : Option Addr} {cs : List Value} (hi : L[i]? = some (row A n c cs t z)) : Rd W A cs := by
  rcases (HS.rowE hi).2 with ⟨e, h2⟩ | ⟨g, cap, cur, e, _⟩
  · intro j v hv
    have := (HS.rowE hi).1
    rw [h2, Nat.zero_mul] at this
    rw [List.eq_nil_of_length_eq_zero this] at hv; simp at hv
  · intro j v hv
    cases e
    exact ⟨_, rfl, (HS.rowE hi).cells rfl j v hv⟩
theorem Src.of_rd {A : Option Addr} {n c z : Nat} {cs : List Value} (h : Rd W A cs) (hl : cs.length = n * z) (hz : 0 < z) (hA : n = 0 → A = none ∨ ∃ ad, A = some ad) (h1 : ∀ u ∈ cs, u.oneCell' = true) : Src W (.slice A n c) n z cs := by
  refine ⟨⟨A, c, rfl, ?_⟩, hl, h1⟩
  cases A with
  | none =>
    left
    refine ⟨rfl, ?_⟩
    rcases Nat.eq_zero_or_pos n with h0 | h0
    · exact h0
    · obtain ⟨ad, e⟩ := h.isSome_ (by rw [hl]; exact Nat.mul_pos h0 hz); cases e
  | some ad => exact .inr ⟨ad, rfl, fun j u hu => h.at_ hu⟩
end
/-! rows of whole numbers -/
def ci (k : IntKind) (xs : List Int) : List Value := xs.map (Value.int k)
theorem ci_len (k : IntKind) (xs : List Int) : (ci k xs).length = xs.length := by simp [ci]
theorem ci_nil (k : IntKind) : ci k [] = [] := rfl
theorem ci_one {k : IntKind} {xs : List Int} : ∀ u ∈ ci k xs, u.oneCell' = true := by
  intro u hu; simp only [ci, List.mem_map] at hu; obtain ⟨x, _, rfl⟩ := hu; rfl
def rdI (xs : List Int) (i : Int) : Int := xs.getD i.toNat 0
theorem ci_rd {k : IntKind} {xs : List Int} {i : Int} (h0 : 0 ≤ i) (h1 : i < xs.length) : (ci k xs)[i.toNat]? = some (.int k (rdI xs i)) := by
  have h : i.toNat < xs.length := by omega
  simp [ci, rdI, h]
theorem ci_set (k : IntKind) (xs : List Int) (j : Nat) (v : Int) : splice (ci k xs) j [.int k v] = ci k (xs.set j v) := by simp [splice, ci]
theorem ci_app (k : IntKind) (xs ys : List Int) : ci k (xs ++ ys) = ci k xs ++ ci k ys := by simp [ci]
theorem ci_rep (k : IntKind) (n : Nat) (x : Int) : ci k (List.replicate n x) = (List.replicate n [Value.int k x]).flatten := by
  induction n with
  | zero => rfl
  | succ n ih => rw [List.replicate_succ, List.replicate_succ, List.flatten_cons, ← ih]; rfl
/-! rows of structs -/
def cf {α : Type} (f : α → List Value) (xs : List α) : List Value := xs.flatMap f
theorem cf_len {α : Type} {f : α → List Value} {z : Nat} (hf : ∀ x, (f x).length = z) (xs : List α) : (cf f xs).length = xs.length * z := by
  induction xs with
  | nil => simp [cf]
  | cons x xs ih => simp only [cf, List.flatMap_cons, List.length_append, hf, List.length_cons]; have : (List.flatMap f xs).length = xs.length * z := ih; rw [this, Nat.add_mul]; omega
theorem cf_app {α : Type} (f : α → List Value) (xs ys : List α) : cf f (xs ++ ys) = cf f xs ++ cf f ys := by simp [cf]
theorem cf_rd {α : Type} {f : α → List Value} {z : Nat} (hf : ∀ x, (f x).length = z) : ∀ (xs : List α) (i k : Nat) (x : α), xs[i]? = some x → k < z → (cf f xs)[i * z + k]? = (f x)[k]?
  | [], i, k, x, h, _ => by simp at h
  | y :: xs, 0, k, x, h, hk => by
    simp only [List.getElem?_cons_zero, Option.some.injEq] at h
    subst h
    show (f y ++ xs.flatMap f)[0 * z + k]? = _
    rw [Nat.zero_mul, Nat.zero_add, List.getElem?_append_left (by rw [hf]; exact hk)]
  | y :: xs, i + 1, k, x, h, hk => by
    simp only [List.getElem?_cons_succ] at h
    show (f y ++ xs.flatMap f)[(i + 1) * z + k]? = _
    rw [List.getElem?_append_right (by rw [hf, Nat.add_mul]; omega), hf, show (i + 1) * z + k - z = i * z + k by rw [Nat.add_mul]; omega]
    exact cf_rd hf xs i k x h hk
theorem cf_one {α : Type} {f : α → List Value} (h : ∀ x, (f x).all (·.oneCell') = true) {xs : List α} : ∀ u ∈ cf f xs, u.oneCell' = true := by
  intro u hu; simp only [cf, List.mem_flatMap] at hu; obtain ⟨x, _, hx⟩ := hu; exact List.all_eq_true.1 (h x) u hx
/-- What is owned, in another order. -/
theorem perm_ {L L' : List Ent} (is : List Nat) (hp : is.isPerm (List.range L.length) = true) (h : is.filterMap (L[·]?) = L') : L.Perm L' := by
  have h1 := (List.isPerm_iff.1 hp).filterMap (L[·]?)
  rw [h] at h1
  have h2 : (List.range L.length).filterMap (L[·]?) = L := by
    clear h1 h hp
    induction L with
    | nil => rfl
    | cons a L ih => rw [List.length_cons, List.range_succ_eq_map, List.filterMap_cons]; simp only [List.getElem?_cons_zero, List.filterMap_map]; congr 1
  rw [h2] at h1
  exact h1.symm
theorem add_add (a : Addr) (m k : Nat) : (a.add m).add k = a.add (m + k) := by
  unfold Addr.add
  by_cases hm : m = 0 <;> by_cases hk : k = 0 <;> simp [hm, hk, Nat.add_assoc]
section
variable {P : Program} {a : Act} {W W' W0 : World} {M : Nat → Prop} {L : List Ent} {d : Nat} {ty : TypeId} {ps : String} {af : Array Edge} {gd : Option (Nat × Bool)} {dst : Option Nat}
theorem R_indexA1 {t : TypeId} {x y : Operand} {p : Addr} {n c e : Nat} {k : IntKind} {i : Int} (hx : a.eval x = .slice (some p) n c) (hy : a.eval y = .int k i) (ht : P.underlying t = some (.slice e)) (hz : (P.info? e).map (·.size) = some 1) (h0 : 0 ≤ i) (h1 : i < n) :
    (execOp a.eval ⟨dst, .indexAddr t x y, ty, ps, af, gd⟩).run P W = .ok (.value (.pointer (some (p.add i.toNat)))) W := by
  rw [R_indexA hx hy ht hz h0 h1, Nat.mul_one]
/-- An element of a row of structs that is read. -/
theorem Rd.elem {α : Type} {f : α → List Value} {z : Nat} (hf : ∀ x, (f x).length = z) {ad : Addr} {xs : List α} (h : Rd W (some ad) (cf f xs)) {i : Nat} {x : α} (hx : xs[i]? = some x) : ∀ j v, (f x)[j]? = some v → W.cell? ((ad.add (i * z)).add j) = some v := by
  intro j v hv
  have hj : j < z := by rw [← hf x]; exact (List.getElem?_eq_some_iff.1 hv).1
  rw [add_add]
  exact h.at_ ((cf_rd hf xs i j x hx hj).trans hv)
theorem Rd.elem1 {α : Type} {f : α → List Value} {z : Nat} (hf : ∀ x, (f x).length = z) {ad : Addr} {xs : List α} (h : Rd W (some ad) (cf f xs)) {i k : Nat} {x : α} {v : Value} (hx : xs[i]? = some x) (hv : (f x)[k]? = some v) : W.cell? ((ad.add (i * z)).add k) = some v := Rd.elem hf h hx k v hv
theorem Rd.elem0 {α : Type} {f : α → List Value} {z : Nat} (hf : ∀ x, (f x).length = z) {ad : Addr} {xs : List α} (h : Rd W (some ad) (cf f xs)) {i : Nat} {x : α} {v : Value} (hx : xs[i]? = some x) (hv : (f x)[0]? = some v) : W.cell? (ad.add (i * z)) = some v := by
  have := Rd.elem hf h hx 0 v hv
  rwa [Addr.add_zero'] at this
theorem St.oldN (HS : St W0 (owns []) W L) {p : Addr} {cs : List Value} (h : ∀ j v, cs[j]? = some v → W0.cell? (p.add j) = some v) : ∀ j v, cs[j]? = some v → W.cell? (p.add j) = some v := fun j v hv => HS.old0 (h j v hv)
/-- An element of one's own row of structs. -/
theorem St.elem (HS : St W0 M W L) {α : Type} {f : α → List Value} {z : Nat} (hf : ∀ x, (f x).length = z) {i g n c t : Nat} {xs : List α} (hi : L[i]? = some (row (some ⟨g, 0, none⟩) n c (cf f xs) t z)) {j : Nat} {x : α} (hx : xs[j]? = some x) : ∀ k v, (f x)[k]? = some v → W.cell? ((⟨g, j * z, none⟩ : Addr).add k) = some v := by
  intro k v hv
  have hk : k < z := by rw [← hf x]; exact (List.getElem?_eq_some_iff.1 hv).1
  rw [Addr.add_lit]
  exact HS.rcell hi ((cf_rd hf xs j k x hx hk).trans hv)
theorem St.elem1 (HS : St W0 M W L) {α : Type} {f : α → List Value} {z : Nat} (hf : ∀ x, (f x).length = z) {i g n c t : Nat} {xs : List α} (hi : L[i]? = some (row (some ⟨g, 0, none⟩) n c (cf f xs) t z)) {j k : Nat} {x : α} {v : Value} (hx : xs[j]? = some x) (hv : (f x)[k]? = some v) : W.cell? ⟨g, j * z + k, none⟩ = some v := by
  have := HS.elem hf hi hx k v hv
  rwa [Addr.add_lit] at this
theorem St.elem0 (HS : St W0 M W L) {α : Type} {f : α → List Value} {z : Nat} (hf : ∀ x, (f x).length = z) {i g n c t : Nat} {xs : List α} (hi : L[i]? = some (row (some ⟨g, 0, none⟩) n c (cf f xs) t z)) {j : Nat} {x : α} {v : Value} (hx : xs[j]? = some x) (hv : (f x)[0]? = some v) : W.cell? ⟨g, j * z, none⟩ = some v := HS.elem1 hf hi (k := 0) hx hv
end
def gx {α : Type} [Inhabited α] (xs : List α) (i : Int) : α := xs.getD i.toNat default
theorem gx_eq {α : Type} [Inhabited α] {xs : List α} {i : Int} (h0 : 0 ≤ i) (h1 : i < xs.length) : xs[i.toNat]? = some (gx xs i) := by
  have h : i.toNat < xs.length := by omega
  simp [gx, h]
theorem rdI_eq {xs : List Int} {i : Int} (h0 : 0 ≤ i) (h1 : i < xs.length) : xs[i.toNat]? = some (rdI xs i) := by
  have h : i.toNat < xs.length := by omega
  simp [rdI, h]
section
variable {P : Program} {ops : Array Oper} {Q : Exit → Act → World → Prop} {rest : List Oper} {l : List Value} {W W0 : World} {M : Nat → Prop} {L : List Ent} {d : Nat} {ty : TypeId} {ps : String} {af : Array Edge} {gd : Option (Nat × Bool)}
/-- append to nothing. -/
theorem ka0 {t e : TypeId} {s x : Operand} (HS : St W0 M W L) {z m : Nat} {news : List Value} {xv : Value} (hsrc : Src W xv m z news) (zs : List Value) (by_ : Nat)
    (hw : Region.wanted ⟨some d, .call { callee := .builtin .append, args := #[s, x], argTypes := #[t, t] }, ty, ps, af, gd⟩ (yielded ops (Fr l).tmps) = true)
    (hs : (Fr l).eval s = .slice none 0 0) (hx : (Fr l).eval x = xv)
    (ht : P.underlying t = some (.slice e)) (hz : ((P.info? e).bind (·.zero)).map (·.cells) = some zs.toArray) (hzl : zs.length = z) (hsz : (P.info? e).map (·.size) = some z) (hb : (P.info? e).map (·.bytes) = some by_) (h0 : 0 < z) (h63 : m ≤ 140737488355327) (hbytes : m * by_ ≤ 140737488355328)
    (h : ∀ A' c' W', St W0 M W' (row A' m c' news e z :: L) → wpList P ops Q rest (Fr (l.set d (.slice A' m c'))) W') :
    wpList P ops Q (⟨some d, .call { callee := .builtin .append, args := #[s, x], argTypes := #[t, t] }, ty, ps, af, gd⟩ :: rest) (Fr l) W := by
  refine ka (HS.nilRow e z) 0 rfl hsrc zs by_ hw hs hx ht hz hzl hsz hb h0 (by omega) (by rw [Nat.zero_add]; exact hbytes) fun A' c' W' HS' => ?_
  rw [Nat.zero_add] at HS' ⊢
  exact h A' c' W' HS'
end
/-! results that lie in memory -/
section
variable {P : Program} {W W0 : World} {M : Nat → Prop} {L : List Ent} {tmps : Array Value} {fn : Func}
def oneRes (tmps : Array Value) : ResultVar → Sem Value
  | .tmp t => pure (tmps.getD t undef)
  | .cell a t => do loadVar t (← asAddr (tmps.getD a undef))
theorem results_eq : results fn tmps = (do let vs ← fn.results.mapM (oneRes tmps); pure (if h : vs.size = 1 then vs[0] else .tuple vs)) := by
  unfold results oneRes; rfl
theorem res2 {r1 r2 : ResultVar} {v1 v2 : Value} (h : fn.results = #[r1, r2]) (h1 : (oneRes tmps r1).run P W = .ok v1 W) (h2 : (oneRes tmps r2).run P W = .ok v2 W) : (results fn tmps).run P W = .ok (.tuple #[v1, v2]) W := by
  simp [results_eq, h, h1, h2]
theorem oneRes_t {t : Nat} {v : Value} (h : tmps.getD t undef = v) : (oneRes tmps (.tmp t)).run P W = .ok v W := by
  simp only [oneRes, h]; rfl
theorem oneRes_agg {a : Nat} {t : TypeId} {p : Addr} (cs : List Value) (hp : tmps.getD a undef = .pointer (some p)) (hu : aggB P t = true) (hs : someB P t = true) (hn : (P.info? t).map (·.size) = some cs.length) (hc : ∀ j v, cs[j]? = some v → W.cell? (p.add j) = some v) : (oneRes tmps (.cell a t)).run P W = .ok (.agg cs.toArray) W := by
  simp only [oneRes, hp]
  simp [asAddr, loadVar, run_isAgg hu hs, run_sizeOf hn, run_loadCells_list W p cs hc]
/-- A whole block, read. -/
theorem St.cellsN (HS : St W0 M W L) {i g t : Nat} {cs : List Value} (hi : L[i]? = some (blk g cs t)) : ∀ j v, cs[j]? = some v → W.cell? ((⟨g, 0, none⟩ : Addr).add j) = some v := fun j v hv => by
  rw [Addr.add_lit, Nat.zero_add]; exact HS.cell hi hv
theorem cell_at {g j t : Nat} {cs : Array Value} {fr : Nat × Nat} {v : Value} (h : W.heap[g]? = some (.cells cs t fr)) (hv : cs[j]? = some v) : W.cell? ⟨g, j, none⟩ = some v := by
  rw [cell_of_row W g j cs t fr h]; exact hv
theorem cut_rd {A : Option Addr} {c lo hi : Nat} {k : IntKind} {os xs : List Int} (h : Rd W A (ci k os)) (hlo : lo ≤ hi) (hhi : hi ≤ os.length) (hc : os.length ≤ c) (hx : (os.drop lo).take (hi - lo) = xs) : ∃ B cB, Value.slice (cutA A c lo 1) (hi - lo) (c - lo) = .slice B xs.length cB ∧ Rd W B (ci k xs) := by
  have hl : xs.length = hi - lo := by rw [← hx, List.length_take, List.length_drop]; omega
  refine ⟨_, _, by rw [hl], fun j v hv => ?_⟩
  have hj : j < hi - lo := by rw [← hl, ← ci_len k]; exact (List.getElem?_eq_some_iff.1 hv).1
  have hv2 : (ci k os)[lo + j]? = some v := by
    rw [← hx] at hv
    unfold ci at hv ⊢
    rw [List.getElem?_map, List.getElem?_take_of_lt hj, List.getElem?_drop] at hv
    rw [List.getElem?_map]; exact hv
  obtain ⟨ad, rfl, hcell⟩ := h _ _ hv2
  unfold cutA
  rw [if_neg (by omega)]
  refine ⟨_, rfl, ?_⟩
  rw [add_add, Nat.mul_one]; exact hcell
theorem Src.of_rd' {A : Option Addr} {n c z : Nat} {cs : List Value} (h : Rd W A cs) (hl : cs.length = n * z) (hz : 0 < z) (h1 : ∀ u ∈ cs, u.oneCell' = true) : Src W (.slice A n c) n z cs :=
  Src.of_rd h hl hz (fun _ => by cases A; exact .inl rfl; exact .inr ⟨_, rfl⟩) h1
end
section
variable {P : Program} {ops : Array Oper} {Q : Exit → Act → World → Prop} {rest : List Oper} {l : List Value} {W W0 : World} {M : Nat → Prop} {L : List Ent} {d : Nat} {ty : TypeId} {ps : String} {af : Array Edge} {gd : Option (Nat × Bool)}
/-- append, what comes of it told in words of one's own. -/
theorem ka1 {t e : TypeId} {s x : Operand} (HS : St W0 M W L) (i : Nat) {n c z m : Nat} {A : Option Addr} {cs news : List Value} {xv : Value} (hi : L[i]? = some (row A n c cs e z)) (hsrc : Src W xv m z news) (zs : List Value) (by_ n' : Nat) (cs' : List Value) (hn : n + m = n') (hcs : cs ++ news = cs')
    (hw : Region.wanted ⟨some d, .call { callee := .builtin .append, args := #[s, x], argTypes := #[t, t] }, ty, ps, af, gd⟩ (yielded ops (Fr l).tmps) = true)
    (hs : (Fr l).eval s = .slice A n c) (hx : (Fr l).eval x = xv)
    (ht : P.underlying t = some (.slice e)) (hz : ((P.info? e).bind (·.zero)).map (·.cells) = some zs.toArray) (hzl : zs.length = z) (hsz : (P.info? e).map (·.size) = some z) (hb : (P.info? e).map (·.bytes) = some by_) (h0 : 0 < z) (h63 : n' ≤ 140737488355327) (hbytes : n' * by_ ≤ 140737488355328)
    (h : ∀ A' c' W', St W0 M W' (L.set i (row A' n' c' cs' e z)) → wpList P ops Q rest (Fr (l.set d (.slice A' n' c'))) W') :
    wpList P ops Q (⟨some d, .call { callee := .builtin .append, args := #[s, x], argTypes := #[t, t] }, ty, ps, af, gd⟩ :: rest) (Fr l) W := by
  subst hn; subst hcs
  exact ka HS i hi hsrc zs by_ hw hs hx ht hz hzl hsz hb h0 h63 hbytes h
end
attribute [irreducible] rdI gx ci cf
/-! ### drawn regions with what makes memory among what reads -/
section
variable {P : Program} {ops : Array Oper} {Q : Exit → Act → World → Prop} {l : List Value} {N : Nat → Prop} {V W W' W0 : World} {M : Nat → Prop} {L : List Ent} {op : Op} {d : Nat} {ty : TypeId} {ps : String} {af : Array Edge} {gd : Option (Nat × Bool)} {dst : Option Nat} {n : Nat} {ls : Array Bool}
def TA (P : Program) (ops : Array Oper) (Q : Exit → Act → World → Prop) (N : Nat → Prop) (V : World) (n : Nat) (ls : Array Bool) (a : Act) (w : World) : Prop := wpAnyH P .any ops Q (fun w' => Kpt N V w') n ls a w
theorem Kpt.cell (h : Kpt (fun _ => False) V W) {p : Addr} {v : Value} (hc : V.cell? p = some v) : W.cell? p = some v :=
  (World.cell?_of_block (h.block p.block (World.block_lt_of_cell? V p hc) (fun f => f))).trans hc
theorem Kpt.cells (h : Kpt (fun _ => False) V W) {p : Addr} {cs : List Value} (hc : ∀ j v, cs[j]? = some v → V.cell? (p.add j) = some v) : ∀ j v, cs[j]? = some v → W.cell? (p.add j) = some v := fun j v hv => h.cell (hc j v hv)
theorem Kpt.tr (h : Kpt N V W) (k : Kpt (fun _ => False) W W') : Kpt N V W' := h.trans k (fun _ f => f.elim)
theorem Kpt.trN (h : Kpt N V W) (k : Kpt N W W') : Kpt N V W' := h.trans k (fun _ f => .inl f)
theorem Kpt.cellN (h : Kpt N V W) {p : Addr} {v : Value} (hn : ¬ N p.block) (hc : V.cell? p = some v) : W.cell? p = some v :=
  (World.cell?_of_block (h.block p.block (World.block_lt_of_cell? V p hc) hn)).trans hc
/-- What was there ahead of all is no entry's. -/
theorem St.oldK (HS : St W0 (owns []) V L) {i : Nat} {e : Ent} (hi : L[i]? = some e) (hk : Kpt e.own V W) {p : Addr} {v : Value} (hc : W0.cell? p = some v) : W.cell? p = some v :=
  hk.cellN (fun ho => by
    have h1 := ((HS.has e (List.mem_of_getElem? hi)).2 _ ho).2
    have h2 := World.block_lt_of_cell? W0 p hc
    exact h1.elim (owns_nil _) (fun h3 => by omega)) (HS.old0 hc)
theorem St.sepB (HS : St W0 M V L) {a b g t : Nat} {cs : List Value} {e : Ent} (hab : a ≠ b) (ha : L[a]? = some (blk g cs t)) (hb : L[b]? = some e) : ¬ e.own g := by
  have hne := List.pairwise_iff_getElem.1 HS.ne
  obtain ⟨h1, e1⟩ := List.getElem?_eq_some_iff.1 ha
  obtain ⟨h2, e2⟩ := List.getElem?_eq_some_iff.1 hb
  intro ho
  rcases Nat.lt_or_gt_of_ne hab with h | h
  · exact hne a b h1 h2 h g (by rw [e1]; rfl) (by rw [e2]; exact ho)
  · exact hne b a h2 h1 h g (by rw [e2]; exact ho) (by rw [e1]; rfl)
theorem t_start {id : Nat} {ol : List Oper} (HS : St W0 M W L) (N : Nat → Prop) (n : Nat) (hm : P.follows .mixedOrders = true) (hn : ol.toArray.size = n)
    (h : ∀ V, St W0 M V L → Kpt (fun _ => False) W V → TA P ol.toArray Q N V n (Array.replicate n false) (Fr l) V) : (Code.region id ol.toArray true).wp P Q (Fr l) W := by
  subst hn
  exact wp_region_held hm (h _ (HS.drew _) (.drew _ _))
theorem t_q (i : Nat) (v : Value) (hi : ops[i]? = some ⟨some d, op, ty, ps, af, gd⟩) (hc : (Region.noSelect ops && Region.free .any ops ls i && (Region.ready .any ops ls).contains i) = true)
    (hw : Region.wanted ⟨some d, op, ty, ps, af, gd⟩ (yielded ops (Fr l).tmps) = true) (hQ : ∀ c a w, Q (.panic c) (a.put (some d) v) w → Q (.panic c) a w)
    (hr : ∀ w', Kpt N V w' → (execOp (Fr l).eval ⟨some d, op, ty, ps, af, gd⟩).run P w' = .ok (.value v) w') (hk : Kpt N V W)
    (h : TA P ops Q N V n (ls.setIfInBounds i true) (Fr (l.set d v)) W) : TA P ops Q N V (n + 1) ls (Fr l) W := by
  simp only [Bool.and_eq_true] at hc
  refine wpAnyH_take hi hc.1.1 hc.1.2 hc.2 hQ (.inl ⟨hw, fun w' hk' => hr w' hk'⟩) hk ?_
  show wpAnyH _ _ _ _ _ _ _ ((Fr l).put (some d) v) _
  rw [Fr_put]; exact h
theorem t_one (i : Nat) (hr : Region.ready .any ops ls = [i]) (h : wpOp P ops Q i (fun a' w' => Kpt N V w' ∧ TA P ops Q N V n (ls.setIfInBounds i true) a' w') (Fr l) W) : TA P ops Q N V (n + 1) ls (Fr l) W :=
  wpAnyH_all hr (by simp) (fun j hj => by rw [List.mem_singleton] at hj; subst hj; exact h)
/-- What is alone: it gives a value. -/
theorem t_e (i : Nat) (v : Value) (hi : ops[i]? = some ⟨some d, op, ty, ps, af, gd⟩) (hr : Region.ready .any ops ls = [i]) (hw : Region.wanted ⟨some d, op, ty, ps, af, gd⟩ (yielded ops (Fr l).tmps) = true)
    (hrun : (execOp (Fr l).eval ⟨some d, op, ty, ps, af, gd⟩).run P W = .ok (.value v) W') (hk : Kpt N V W') (h : TA P ops Q N V n (ls.setIfInBounds i true) (Fr (l.set d v)) W') : TA P ops Q N V (n + 1) ls (Fr l) W := by
  refine t_one i hr ?_
  unfold wpOp; rw [hi]; simp only; rw [if_pos hw]
  left; unfold Oper.wp; rw [hrun]
  exact ⟨hk, (Fr_put l d v) ▸ h⟩
/-- One of two that may come up. -/
theorem t_pick2 (i j : Nat) (hr : Region.ready .any ops ls = [i, j]) (hi : wpOp P ops Q i (fun a' w' => Kpt N V w' ∧ TA P ops Q N V n (ls.setIfInBounds i true) a' w') (Fr l) W) (hj : wpOp P ops Q j (fun a' w' => Kpt N V w' ∧ TA P ops Q N V n (ls.setIfInBounds j true) a' w') (Fr l) W) : TA P ops Q N V (n + 1) ls (Fr l) W :=
  wpAnyH_all hr (by simp) (fun k hk => by
    rcases List.mem_cons.1 hk with rfl | hk
    · exact hi
    · rw [List.mem_singleton] at hk; subst hk; exact hj)
theorem t_e2 (i : Nat) (v : Value) (hi : ops[i]? = some ⟨some d, op, ty, ps, af, gd⟩) (hw : Region.wanted ⟨some d, op, ty, ps, af, gd⟩ (yielded ops (Fr l).tmps) = true)
    (hrun : (execOp (Fr l).eval ⟨some d, op, ty, ps, af, gd⟩).run P W = .ok (.value v) W') (hk : Kpt N V W') (h : TA P ops Q N V n (ls.setIfInBounds i true) (Fr (l.set d v)) W') : wpOp P ops Q i (fun a' w' => Kpt N V w' ∧ TA P ops Q N V n (ls.setIfInBounds i true) a' w') (Fr l) W := by
  unfold wpOp; rw [hi]; simp only; rw [if_pos hw]
  left; unfold Oper.wp; rw [hrun]
  exact ⟨hk, (Fr_put l d v) ▸ h⟩
/-- A store. -/
theorem t_s (i : Nat) (hi : ops[i]? = some ⟨none, op, ty, ps, af, gd⟩) (hr : Region.ready .any ops ls = [i]) (hw : Region.wanted ⟨none, op, ty, ps, af, gd⟩ (yielded ops (Fr l).tmps) = true)
    (hrun : (execOp (Fr l).eval ⟨none, op, ty, ps, af, gd⟩).run P W = .ok .skip W') (hk : Kpt N V W') (h : TA P ops Q N V n (ls.setIfInBounds i true) (Fr l) W') : TA P ops Q N V (n + 1) ls (Fr l) W := by
  refine t_one i hr ?_
  unfold wpOp; rw [hi]; simp only; rw [if_pos hw]
  left; unfold Oper.wp; rw [hrun]
  exact ⟨hk, h⟩
theorem ex_kr {t : TypeId} {x y : Operand} {v : Value} (HS : St W0 M W L) (i : Nat) {g m c tb z : Nat} {cs : List Value} (hi : L[i]? = some (row (some ⟨g, 0, none⟩) m c cs tb z)) (j : Nat) (news : List Value)
    (hx : (Fr l).eval x = .pointer (some ⟨g, j, none⟩)) (hy : (Fr l).eval y = v) (hv : v.cells = news.toArray) (hn : (P.info? t).map (·.size) = some news.length) (h1 : ∀ u ∈ news, u.oneCell' = true) (hfit : j + news.length ≤ cs.length) :
    ∃ W', (execOp (Fr l).eval ⟨none, .store t x y, ty, ps, af, gd⟩).run P W = .ok .skip W' ∧ St W0 M W' (L.set i (row (some ⟨g, 0, none⟩) m c (splice cs j news) tb z)) ∧ Kpt (fun k => k = g) W W' := by
  obtain ⟨cur, hg, hle, HS2⟩ := HS.setRow_ hi j news hfit
  exact ⟨_, R_store news hg hx hy hv hn h1 (by omega), HS2, .setRow _ _ _ rfl⟩
theorem row_own {g m c t z k : Nat} {cs : List Value} (h : k = g) : (row (some ⟨g, 0, none⟩) m c cs t z).own k := by subst h; rfl
theorem t_done (hr : Region.ready .any ops ls = []) (h : Q .normal (Fr l) W) : TA P ops Q N V n ls (Fr l) W := wpAnyH_done hr h n
theorem ex_blk (HS : St W0 M W L) (cs : List Value) (t : Nat) : ∃ g W', g = W.heap.size ∧ W' = W.alloc (.cells cs.toArray t) ∧ St W0 M W' (blk g cs t :: L) ∧ Kpt (fun _ => False) W W' := ⟨_, _, rfl, rfl, HS.newBlk cs t, .alloc _ _⟩
theorem ex_lit (HS : St W0 M W L) (n : Nat) (cs : List Value) (t z : Nat) (h1 : cs.length = n * z) (h2 : n ≤ 140737488355327) : ∃ g W', g = W.heap.size ∧ W' = W.alloc (.cells cs.toArray t) ∧ St W0 M W' (row (some ⟨g, 0, none⟩) n n cs t z :: L) ∧ Kpt (fun _ => False) W W' :=
  ⟨_, _, rfl, rfl, HS.newRow n n cs cs t z h1 h1 (Nat.le_refl _) (by unfold maxLen; omega) (List.take_of_length_le (by omega)), .alloc _ _⟩
theorem ex_make {t : TypeId} {x y : Operand} {e : Nat} {k1 k2 : IntKind} (HS : St W0 M W L) (n : Nat) (zs : List Value) (by_ : Nat)
    (hx : (Fr l).eval x = .int k1 (n : Int)) (hy : (Fr l).eval y = .int k2 (n : Int)) (ht : P.underlying t = some (.slice e)) (hz : ((P.info? e).bind (·.zero)).map (·.cells) = some zs.toArray) (hs : (P.info? e).map (·.size) = some zs.length) (hb : (P.info? e).map (·.bytes) = some by_) (h0 : 0 < zs.length) (hn : n ≤ 140737488355327) (hm : by_ * n ≤ 281474976710656) :
    ∃ g W', (execOp (Fr l).eval ⟨dst, .makeSlice t x y, ty, ps, af, gd⟩).run P W = .ok (.value (.slice (some ⟨g, 0, none⟩) n n)) W' ∧ St W0 M W' (row (some ⟨g, 0, none⟩) n n ((List.replicate n zs).flatten) e zs.length :: L) ∧ Kpt (fun _ => False) W W' := by
  obtain ⟨i, zv, hi, hzv, hc⟩ := zeroV hz
  rw [hi] at hs hb
  have hs' : i.size = zs.length := by simpa using hs
  have hb' : i.bytes = by_ := by simpa using hb
  have hr := run_make (P := P) W t e i zv ht hi hzv k1 k2 (n : Int) (n : Int) (by omega) (Int.le_refl _) (by rw [hb', ← Int.natCast_mul]; omega) (by omega)
  rw [hc, hs', Int.toNat_natCast, madeCells_list zs n h0] at hr
  refine ⟨W.heap.size, W.alloc (.cells ((List.replicate n zs).flatten).toArray e), ?_, HS.newRow n n _ _ e zs.length (by simp) (by simp) (Nat.le_refl _) (by unfold maxLen; omega) (List.take_of_length_le (by simp)), .alloc _ _⟩
  simp [execOp, hx, hy, hr]
end
theorem Kpt.nil {a b : World} (h : Kpt (owns []) a b) : Kpt (fun _ => False) a b := ⟨h.os, h.tape, h.output, h.size, fun k hk _ => h.block k hk (owns_nil k)⟩
section
variable {P : Program} {l : List Value} {W W0 : World} {M : Nat → Prop} {L : List Ent} {ty : TypeId} {ps : String} {af : Array Edge} {gd : Option (Nat × Bool)} {dst : Option Nat}
theorem ex_append {t e : TypeId} {s x : Operand} (HS : St W0 M W L) (i : Nat) {n c z m : Nat} {A : Option Addr} {cs news : List Value} {xv : Value} (hi : L[i]? = some (row A n c cs e z)) (hsrc : Src W xv m z news) (zs : List Value) (by_ n' : Nat) (cs' : List Value) (hn : n + m = n') (hcs : cs ++ news = cs')
    (hs : (Fr l).eval s = .slice A n c) (hx : (Fr l).eval x = xv)
    (ht : P.underlying t = some (.slice e)) (hz : ((P.info? e).bind (·.zero)).map (·.cells) = some zs.toArray) (hzl : zs.length = z) (hsz : (P.info? e).map (·.size) = some z) (hb : (P.info? e).map (·.bytes) = some by_) (h0 : 0 < z) (h63 : n' ≤ 140737488355327) (hbytes : n' * by_ ≤ 140737488355328) :
    ∃ A' c' W', (execOp (Fr l).eval ⟨dst, .call { callee := .builtin .append, args := #[s, x], argTypes := #[t, t] }, ty, ps, af, gd⟩).run P W = .ok (.value (.slice A' n' c')) W' ∧ St W0 M W' (L.set i (row A' n' c' cs' e z)) ∧ Kpt (row A n c cs e z).own W W' := by
  subst hn; subst hcs
  obtain ⟨A', c', W', hrun, HS', hk⟩ := append_own (ty' := ty) HS hi zs by_ hsrc ht hz hzl hsz hb h0 h63 hbytes
  exact ⟨A', c', W', R_append hs hx hrun, HS', hk⟩
end
theorem wp_seq_cut {P : Program} {Q : Exit → Act → World → Prop} {x y : Code} {a : Act} {w : World} (I : Act → World → Prop) (h1 : x.wp P (Exit.then I Q) a w) (h2 : ∀ a' w', I a' w' → y.wp P Q a' w') : (Code.seq x y).wp P Q a w :=
  wp_seq (Code.wp_mono (fun e a' w' h => by
    cases e with
    | normal => exact h2 a' w' h
    | exit id => exact h
    | goto l => exact h
    | ret => exact h
    | panic ch => exact h
    | outgrown => exact h) h1)

/-! ### chapter 10: what a graph is in memory, and the plain words -/
def arcC (a : Int × Int) : List Value := [.int .i64 a.1, .int .i64 a.2]
def key (b : Bool) (a : Int × Int) : Int := if b = true then a.2 else a.1
def cnt (ks : List Int) (v : Int) : Nat := ks.countP (fun k => decide (k = v))
def low (ks : List Int) (v : Int) : Nat := ks.countP (fun k => decide (k < v))
def idxs (ks : List Int) (v : Int) : List Int := ((List.range ks.length).filter (fun j => decide (ks.getD j 0 = v))).map (fun (j : Nat) => (j : Int))
theorem cnt_le (ks : List Int) (v : Int) : cnt ks v ≤ ks.length := List.countP_le_length
theorem low_le (ks : List Int) (v : Int) : low ks v ≤ ks.length := List.countP_le_length
theorem cnt_snoc (ks : List Int) (k v : Int) : cnt (ks ++ [k]) v = cnt ks v + if k = v then 1 else 0 := by
  unfold cnt; rw [List.countP_append]; by_cases h : k = v <;> simp [h]
theorem low_succ (ks : List Int) (v : Int) : low ks (v + 1) = low ks v + cnt ks v := by
  unfold low cnt
  induction ks with
  | nil => rfl
  | cons k ks ih =>
    simp only [List.countP_cons]
    by_cases h1 : k < v
    · have h2 : k < v + 1 := by omega
      have h3 : ¬ k = v := by omega
      simp only [h1, h2, h3, decide_true, decide_false, if_true]; simp; omega
    · by_cases h2 : k = v
      · have h3 : k < v + 1 := by omega
        simp only [h3, h2, decide_true, if_true, show ¬ v < v by omega, decide_false, show v < v + 1 by omega]; simp; omega
      · have h3 : ¬ k < v + 1 := by omega
        simp only [h1, h2, h3, decide_false]; simp; omega
theorem low_add (ks : List Int) (v : Int) : low ks v + cnt ks v ≤ ks.length := by rw [← low_succ]; exact low_le _ _
theorem low_mono (ks : List Int) {u v : Int} (h : u ≤ v) : low ks u ≤ low ks v := by
  unfold low; exact List.countP_mono_left (fun x _ hx => by simp at hx ⊢; omega)
theorem low_sep (ks : List Int) {u v : Int} (h : u < v) : low ks u + cnt ks u ≤ low ks v := by rw [← low_succ]; exact low_mono ks (by omega)
theorem low_zero {ks : List Int} (h : ∀ k ∈ ks, 0 ≤ k) : low ks 0 = 0 := by
  unfold low; rw [List.countP_eq_zero]; intro x hx; have := h x hx; simp; omega
theorem cnt_none {ks : List Int} {v : Int} (h : ∀ k ∈ ks, k ≠ v) : cnt ks v = 0 := by
  unfold cnt; rw [List.countP_eq_zero]; intro x hx; simp; exact h x hx
theorem idxs_snoc (ks : List Int) (k v : Int) : idxs (ks ++ [k]) v = idxs ks v ++ if k = v then [(ks.length : Int)] else [] := by
  unfold idxs
  rw [List.length_append, List.length_singleton, List.range_succ, List.filter_append, List.map_append]
  congr 1
  · congr 1
    apply List.filter_congr
    intro j hj
    have hj' : j < ks.length := by simpa using hj
    rw [List.getD_eq_getElem?_getD, List.getD_eq_getElem?_getD, List.getElem?_append_left hj']
  · have e : (ks ++ [k]).getD ks.length 0 = k := by simp
    by_cases h : k = v
    · subst h; simp [e]
    · simp [e, h]
theorem snoc_ind {α : Type} {P : List α → Prop} (h0 : P []) (h1 : ∀ l a, P l → P (l ++ [a])) (l : List α) : P l := by
  rw [← List.reverse_reverse l]
  induction l.reverse with
  | nil => exact h0
  | cons a l ih => rw [List.reverse_cons]; exact h1 _ _ ih
theorem idxs_length (ks : List Int) (v : Int) : (idxs ks v).length = cnt ks v := by
  induction ks using snoc_ind with
  | h0 => rfl
  | h1 ks k ih =>
    rw [idxs_snoc, cnt_snoc, List.length_append, ih]
    by_cases h : k = v <;> simp [h]
theorem take_snoc {α : Type} {l : List α} {i : Nat} {x : α} (h : l[i]? = some x) : l.take (i + 1) = l.take i ++ [x] := by
  obtain ⟨hi, e⟩ := List.getElem?_eq_some_iff.1 h
  rw [List.take_succ_eq_append_getElem hi, e]
/-! the list of begins -/
def bg (N : Nat) (ks : List Int) : List Int := (List.range (N + 1)).map (fun (v : Nat) => ((cnt ks ((v : Int) - 1) : Nat) : Int))
def bl (N : Nat) (ks : List Int) : List Int := (List.range (N + 1)).map (fun (v : Nat) => ((low ks (v : Int) : Nat) : Int))
def bm (N : Nat) (ks : List Int) (k : Nat) : List Int := (List.range (N + 1)).map (fun (v : Nat) => if v ≤ k then ((low ks (v : Int) : Nat) : Int) else ((cnt ks ((v : Int) - 1) : Nat) : Int))
def ba (N : Nat) (ks : List Int) (i : Nat) : List Int := (List.range (N + 1)).map (fun (v : Nat) => ((low ks (v : Int) + cnt (ks.take i) (v : Int) : Nat) : Int))
theorem rg_get {α : Type} (n : Nat) (f : Nat → α) {v : Nat} (h : v < n) : ((List.range n).map f)[v]? = some (f v) := by simp [h]
theorem rg_rd (n : Nat) (f : Nat → Int) {v : Int} (h0 : 0 ≤ v) (h : v < n) : rdI ((List.range n).map f) v = f v.toNat := by
  have h1 : v.toNat < n := by omega
  simp [rdI, h1]
theorem rg_set {α : Type} (n : Nat) (f g : Nat → α) (v : Nat) (x : α) (hx : v < n → x = g v) (h : ∀ u, u < n → u ≠ v → f u = g u) : ((List.range n).map f).set v x = (List.range n).map g := by
  apply List.ext_getElem?
  intro u
  rcases Nat.lt_or_ge u n with hu | hu
  · rw [rg_get n g hu]
    rcases Nat.decEq u v with e | rfl
    · rw [List.getElem?_set_ne (Ne.symm e), rg_get n f hu, h u hu e]
    · rw [List.getElem?_set_self (by simpa using hu), hx hu]
  · rw [List.getElem?_eq_none (by simpa using hu), List.getElem?_eq_none (by simpa using hu)]
theorem bl_len (N : Nat) (ks : List Int) : (bl N ks).length = N + 1 := by simp [bl]
theorem bg_nil (N : Nat) : bg N [] = List.replicate (N + 1) 0 := by
  apply List.ext_getElem?; intro u
  rcases Nat.lt_or_ge u (N + 1) with hu | hu
  · rw [bg, rg_get _ _ hu, List.getElem?_replicate, if_pos hu]; rfl
  · rw [List.getElem?_eq_none (by simpa [bg] using hu), List.getElem?_eq_none (by simpa using hu)]
theorem bg_step {N : Nat} {ks : List Int} {i : Nat} {k : Int} (hk : ks[i]? = some k) (h0 : 0 ≤ k) (h1 : k < N) : (bg N (ks.take i)).set (k + 1).toNat (rdI (bg N (ks.take i)) (k + 1) + 1) = bg N (ks.take (i + 1)) := by
  rw [take_snoc hk]
  refine rg_set _ _ _ _ _ (fun hv => ?_) (fun u hu hne => ?_)
  · rw [bg, rg_rd _ _ (by omega) (by omega), cnt_snoc, if_pos (by omega)]; omega
  · rw [cnt_snoc, if_neg (by omega), Nat.add_zero]
theorem bg_rd {N : Nat} {ks : List Int} {v : Int} (h0 : 0 ≤ v) (h1 : v < (N : Int) + 1) : rdI (bg N ks) v = (cnt ks (v - 1) : Int) := by
  rw [bg, rg_rd _ _ h0 (by omega)]; rw [show ((v.toNat : Nat) : Int) = v by omega]
theorem bg_bm {N : Nat} {ks : List Int} (h : ∀ k ∈ ks, 0 ≤ k) : bg N ks = bm N ks 0 := by
  apply List.map_congr_left
  intro v hv
  by_cases h0 : v ≤ 0
  · have : v = 0 := by omega
    subst this
    rw [if_pos h0, show ((0 : Nat) : Int) - 1 = -1 from rfl, show ((0 : Nat) : Int) = 0 from rfl, low_zero h, cnt_none (fun k hk => by have := h k hk; omega)]
  · rw [if_neg h0]
theorem bm_rd {N : Nat} {ks : List Int} {k : Nat} {v : Int} (h0 : 0 ≤ v) (h1 : v < (N : Int) + 1) : rdI (bm N ks k) v = if v.toNat ≤ k then (low ks v : Int) else (cnt ks (v - 1) : Int) := by
  rw [bm, rg_rd _ _ h0 (by omega)]; rw [show ((v.toNat : Nat) : Int) = v by omega]
theorem bm_step {N : Nat} {ks : List Int} {k : Int} (h0 : 0 ≤ k) (h1 : k < N) : (bm N ks k.toNat).set (k + 1).toNat (rdI (bm N ks k.toNat) (k + 1) + rdI (bm N ks k.toNat) k) = bm N ks (k + 1).toNat := by
  refine rg_set _ _ _ _ _ (fun hv => ?_) (fun u hu hne => ?_)
  · rw [bm_rd (by omega) (by omega), bm_rd (by omega) (by omega), if_neg (by omega), if_pos (by omega), if_pos (by omega), show (((k + 1).toNat : Nat) : Int) = k + 1 by omega, low_succ, show k + 1 - 1 = k by omega]
    omega
  · by_cases hu2 : u ≤ k.toNat
    · rw [if_pos hu2, if_pos (by omega)]
    · rw [if_neg hu2, if_neg (by omega)]
theorem bm_bl {N : Nat} {ks : List Int} : bm N ks N = bl N ks := by
  apply List.map_congr_left; intro v hv; rw [if_pos (by have := List.mem_range.1 hv; omega)]
theorem bl_ba {N : Nat} {ks : List Int} : bl N ks = ba N ks 0 := by
  apply List.map_congr_left; intro v hv; rfl
theorem ba_rd {N : Nat} {ks : List Int} {i : Nat} {v : Int} (h0 : 0 ≤ v) (h1 : v < (N : Int) + 1) : rdI (ba N ks i) v = ((low ks v + cnt (ks.take i) v : Nat) : Int) := by
  rw [ba, rg_rd _ _ h0 (by omega)]; rw [show ((v.toNat : Nat) : Int) = v by omega]
theorem bl_rd {N : Nat} {ks : List Int} {v : Int} (h0 : 0 ≤ v) (h1 : v < (N : Int) + 1) : rdI (bl N ks) v = (low ks v : Int) := by
  rw [bl, rg_rd _ _ h0 (by omega)]; rw [show ((v.toNat : Nat) : Int) = v by omega]
theorem ba_step {N : Nat} {ks : List Int} {i : Nat} {k : Int} (hk : ks[i]? = some k) (h0 : 0 ≤ k) (h1 : k < N) : (ba N ks i).set k.toNat (rdI (ba N ks i) k + 1) = ba N ks (i + 1) := by
  refine rg_set _ _ _ _ _ (fun hv => ?_) (fun u hu hne => ?_)
  · rw [ba_rd (by omega) (by omega), take_snoc hk, cnt_snoc, show ((k.toNat : Nat) : Int) = k by omega, if_pos rfl]; omega
  · rw [take_snoc hk, cnt_snoc, if_neg (by omega), Nat.add_zero]
theorem cnt_lt {ks : List Int} {i : Nat} {k : Int} (hk : ks[i]? = some k) : cnt (ks.take i) k < cnt ks k := by
  have h1 := take_snoc hk
  have h2 : cnt (ks.take (i + 1)) k ≤ cnt ks k := by
    unfold cnt; exact (List.take_sublist _ _).countP_le
  rw [h1, cnt_snoc, if_pos rfl] at h2
  omega
theorem cnt_take_le (ks : List Int) (i : Nat) (k : Int) : cnt (ks.take i) k ≤ cnt ks k := by unfold cnt; exact (List.take_sublist _ _).countP_le
/-- The arcs stand where their nodes' begin. -/
def Laid (ks : List Int) (m : Nat) (i : Nat) (os : List Int) : Prop := os.length = m ∧ (∀ x ∈ os, 0 ≤ x ∧ x ≤ 67108864) ∧ ∀ (v : Int) (r : Nat) (x : Int), (idxs (ks.take i) v)[r]? = some x → os[low ks v + r]? = some x
theorem laid_zero (ks : List Int) (m : Nat) : Laid ks m 0 (List.replicate m 0) := by
  refine ⟨by simp, fun x hx => ?_, fun v r x h => ?_⟩
  · have := (List.mem_replicate.1 hx).2; omega
  · simp [idxs] at h
theorem laid_step {ks : List Int} {m i : Nat} {os : List Int} {k : Int} (h : Laid ks m i os) (hm : ks.length = m) (hm2 : m ≤ 67108864) (hk : ks[i]? = some k) : Laid ks m (i + 1) (os.set (low ks k + cnt (ks.take i) k) (i : Int)) := by
  have hi : i < m := by rw [← hm]; exact (List.getElem?_eq_some_iff.1 hk).1
  have hlt : low ks k + cnt (ks.take i) k < m := by have := cnt_lt hk; have := low_add ks k; omega
  refine ⟨by rw [List.length_set]; exact h.1, fun x hx => ?_, fun v r x hx => ?_⟩
  · rcases List.mem_or_eq_of_mem_set hx with h1 | h1
    · exact h.2.1 x h1
    · omega
  · rw [take_snoc hk, idxs_snoc] at hx
    have hl : (ks.take i).length = i := by rw [List.length_take]; omega
    rcases Nat.lt_or_ge r (idxs (ks.take i) v).length with hr | hr
    · rw [List.getElem?_append_left hr] at hx
      rw [idxs_length] at hr
      have hne : low ks k + cnt (ks.take i) k ≠ low ks v + r := by
        rcases Int.lt_trichotomy k v with hkv | hkv | hkv
        · have h1 := low_sep ks hkv
          have h2 := cnt_lt hk
          omega
        · subst hkv; omega
        · have h1 := low_sep ks hkv
          have h2 := cnt_take_le ks i v
          omega
      rw [List.getElem?_set_ne hne]
      exact h.2.2 v r x hx
    · rw [List.getElem?_append_right hr] at hx
      by_cases hkv : k = v
      · subst hkv
        rw [if_pos rfl, idxs_length] at hx
        rw [idxs_length] at hr
        have hr0 : r - cnt (ks.take i) k = 0 := by
          have := (List.getElem?_eq_some_iff.1 hx).1; simp at this; omega
        rw [hr0] at hx
        simp only [List.getElem?_cons_zero, Option.some.injEq, hl] at hx
        have hr1 : r = cnt (ks.take i) k := by omega
        rw [hr1, List.getElem?_set_self (by rw [h.1]; exact hlt), ← hx]
      · rw [if_neg hkv] at hx; simp at hx
theorem laid_next {ks : List Int} {m : Nat} {i p : Int} {os xs : List Int} {k : Int} (h : Laid ks m i.toNat os) (hm : ks.length = m) (hm2 : m ≤ 67108864) (h0 : 0 ≤ i) (hk : ks[i.toNat]? = some k) (hp : p = ((low ks k + cnt (ks.take i.toNat) k : Nat) : Int)) (hx : xs = os.set p.toNat i) : Laid ks m (i + 1).toNat xs := by
  have e : p.toNat = low ks k + cnt (ks.take i.toNat) k := by omega
  have := laid_step h hm hm2 hk
  rw [hx, e, show (i + 1).toNat = i.toNat + 1 by omega]
  rwa [show ((i.toNat : Nat) : Int) = i by omega] at this
theorem laid_slice {ks : List Int} {m : Nat} {os : List Int} (h : Laid ks m ks.length os) (hm : ks.length = m) (v : Int) : (os.drop (low ks v)).take (cnt ks v) = idxs ks v := by
  have hl := low_add ks v
  apply List.ext_getElem?
  intro r
  rcases Nat.lt_or_ge r (cnt ks v) with hr | hr
  · have hr2 : r < (idxs ks v).length := by rw [idxs_length]; exact hr
    rw [List.getElem?_take_of_lt hr, List.getElem?_drop, List.getElem?_eq_getElem hr2]
    exact h.2.2 v r _ (by rw [List.take_length]; exact List.getElem?_eq_getElem hr2)
  · rw [List.getElem?_eq_none (by rw [List.length_take]; omega), List.getElem?_eq_none (by rw [idxs_length]; omega)]
def keys (b : Bool) (arcs : List (Int × Int)) : List Int := arcs.map (key b)
theorem keys_len (b : Bool) (arcs : List (Int × Int)) : (keys b arcs).length = arcs.length := by simp [keys]
theorem keys_get {b : Bool} {arcs : List (Int × Int)} {i : Int} (h0 : 0 ≤ i) (h1 : i < arcs.length) : (keys b arcs)[i.toNat]? = some (key b (gx arcs i)) := by
  rw [keys, List.getElem?_map, gx_eq h0 h1]; rfl
def Fine (N : Nat) (arcs : List (Int × Int)) : Prop := ∀ a ∈ arcs, 0 ≤ a.1 ∧ a.1 < N ∧ 0 ≤ a.2 ∧ a.2 < N
theorem key_fine {N : Nat} {arcs : List (Int × Int)} (h : Fine N arcs) {b : Bool} {i : Int} (h0 : 0 ≤ i) (h1 : i < arcs.length) : 0 ≤ key b (gx arcs i) ∧ key b (gx arcs i) < N := by
  have := h _ (List.mem_of_getElem? (gx_eq h0 h1))
  unfold key; split <;> omega
theorem keys_fine {N : Nat} {arcs : List (Int × Int)} (h : Fine N arcs) {b : Bool} : ∀ k ∈ keys b arcs, 0 ≤ k ∧ k < N := by
  intro k hk
  simp only [keys, List.mem_map] at hk
  obtain ⟨a, ha, rfl⟩ := hk
  have := h a ha
  unfold key; split <;> omega
attribute [irreducible] cnt low idxs bg bl bm ba key keys
/-! New -/
def fineB (n : Int) (a : Int × Int) : Bool := decide (0 ≤ a.1 ∧ a.1 < n ∧ 0 ≤ a.2 ∧ a.2 < n)
def chk (n : Int) (arcs : List (Int × Int)) : Int := if n < 0 then 2 else if 1048576 < n ∨ 67108864 < arcs.length then 5 else if arcs.all (fineB n) then 0 else 7
theorem chk2 {n : Int} {arcs : List (Int × Int)} (h : n < 0) : chk n arcs = 2 := by unfold chk; rw [if_pos h]
theorem chk5 {n : Int} {arcs : List (Int × Int)} (h : ¬ n < 0) (h2 : 1048576 < n ∨ 67108864 < arcs.length) : chk n arcs = 5 := by unfold chk; rw [if_neg h, if_pos h2]
theorem chk7 {n : Int} {arcs : List (Int × Int)} {i : Int} (h : ¬ n < 0) (h2 : ¬ (1048576 < n ∨ 67108864 < arcs.length)) (h0 : 0 ≤ i) (h1 : i < arcs.length) (hb : ¬ (0 ≤ (gx arcs i).1 ∧ (gx arcs i).1 < n ∧ 0 ≤ (gx arcs i).2 ∧ (gx arcs i).2 < n)) : chk n arcs = 7 := by
  unfold chk; rw [if_neg h, if_neg h2, if_neg]
  intro ha
  have := List.all_eq_true.1 ha _ (List.mem_of_getElem? (gx_eq h0 h1))
  simp only [fineB, decide_eq_true_eq] at this
  exact hb this
theorem chk0 {N : Nat} {arcs : List (Int × Int)} (h2 : ¬ (1048576 < (N : Int) ∨ 67108864 < arcs.length)) (hF : Fine N arcs) : chk (N : Int) arcs = 0 := by
  unfold chk; rw [if_neg (by omega), if_neg h2, if_pos]
  exact List.all_eq_true.2 fun a ha => by have := hF a ha; simp only [fineB, decide_eq_true_eq]; exact this
theorem fine_step {N : Nat} {arcs : List (Int × Int)} {i : Int} (h : Fine N (arcs.take i.toNat)) (h0 : 0 ≤ i) (h1 : i < arcs.length) (hb : 0 ≤ (gx arcs i).1 ∧ (gx arcs i).1 < N ∧ 0 ≤ (gx arcs i).2 ∧ (gx arcs i).2 < N) : Fine N (arcs.take (i + 1).toNat) := by
  rw [show (i + 1).toNat = i.toNat + 1 by omega, take_snoc (gx_eq h0 h1)]
  intro a ha
  rcases List.mem_append.1 ha with h2 | h2
  · exact h a h2
  · rw [List.mem_singleton] at h2; subst h2; exact hb
theorem idxs_mem {ks : List Int} {v x : Int} (h : x ∈ idxs ks v) : 0 ≤ x ∧ x < ks.length ∧ ks[x.toNat]? = some v := by
  unfold idxs at h
  simp only [List.mem_map, List.mem_filter, List.mem_range] at h
  obtain ⟨j, ⟨hj, hk⟩, rfl⟩ := h
  refine ⟨by omega, by omega, ?_⟩
  rw [Int.toNat_natCast, List.getElem?_eq_getElem hj]
  simp [hj] at hk
  rw [hk]
theorem idxs_le (b : Bool) (arcs : List (Int × Int)) (v : Int) : (idxs (keys b arcs) v).length ≤ arcs.length := by rw [idxs_length, ← keys_len b arcs]; exact cnt_le _ _
attribute [irreducible] chk
def zs (bs : List Int) : Nat := bs.countP (fun b => decide (b = 0))
theorem rdI_set {bs : List Int} {w x b : Int} (h0 : 0 ≤ w) (h1 : w < bs.length) (hx : 0 ≤ x) : rdI (bs.set w.toNat b) x = if x = w then b else rdI bs x := by
  by_cases h : x = w
  · subst h; rw [if_pos rfl]
    have := rdI_eq (xs := bs.set x.toNat b) h0 (by rw [List.length_set]; exact h1)
    rw [List.getElem?_set_self (by omega)] at this; exact (Option.some.inj this).symm
  · rw [if_neg h]
    rcases Int.lt_or_le x bs.length with h2 | h2
    · have h3 := rdI_eq (xs := bs.set w.toNat b) hx (by rw [List.length_set]; exact h2)
      rw [List.getElem?_set_ne (by omega), rdI_eq hx h2] at h3
      exact (Option.some.inj h3).symm
    · unfold rdI; rw [List.getD_eq_getElem?_getD, List.getD_eq_getElem?_getD, List.getElem?_eq_none (by rw [List.length_set]; omega), List.getElem?_eq_none (by omega)]
theorem rdI_rep {n : Nat} {b x : Int} (h0 : 0 ≤ x) (h1 : x < n) : rdI (List.replicate n b) x = b := by
  have := rdI_eq (xs := List.replicate n b) h0 (by simpa using h1)
  rw [List.getElem?_replicate, if_pos (by omega)] at this; exact (Option.some.inj this).symm
attribute [irreducible] zs
theorem out_step {arcs : List (Int × Int)} {i v : Int} (h0 : 0 ≤ i) (h1 : i < arcs.length) : idxs ((keys false arcs).take (i + 1).toNat) v = idxs ((keys false arcs).take i.toNat) v ++ if (gx arcs i).1 = v then [i] else [] := by
  rw [show (i + 1).toNat = i.toNat + 1 by omega, take_snoc (keys_get (b := false) h0 h1), idxs_snoc, List.length_take, keys_len, Nat.min_eq_left (by omega), show ((i.toNat : Nat) : Int) = i by omega]
  unfold key; rfl
theorem id_step {arcs : List (Int × Int)} {i : Int} (h0 : 0 ≤ i) (h1 : i < arcs.length) : arcs.take (i + 1).toNat = arcs.take i.toNat ++ [((gx arcs i).1, (gx arcs i).2)] := by
  rw [show (i + 1).toNat = i.toNat + 1 by omega, take_snoc (gx_eq h0 h1)]
/-! ### pieces of rows, copies, remainders -/
theorem add_add_ (a : Addr) (m n : Nat) : (a.add m).add n = a.add (m + n) := by
  unfold Addr.add
  by_cases h : m = 0 <;> by_cases h2 : n = 0 <;> simp_all [Nat.add_assoc]
theorem cutA_blk {g N k : Nat} (h : k < N) : cutA (some ⟨g, 0, none⟩) N k 1 = some ⟨g, k, none⟩ := by
  unfold cutA
  rw [if_neg (by omega), Option.map_some, Nat.mul_one]
  unfold Addr.add
  split <;> simp_all
section
variable {P : Program} {ops : Array Oper} {Q : Exit → Act → World → Prop} {R : Act → Prop} {rest : List Oper} {a : Act} {l : List Value} {W W' W0 : World} {M : Nat → Prop} {L : List Ent} {v : Value} {op : Op} {d : Nat} {ty : TypeId} {ps : String} {af : Array Edge} {gd : Option (Nat × Bool)} {dst : Option Nat}
theorem Src.head {A : Option Addr} {n c m : Nat} {cs : List Value} (h : Src W (.slice A n c) n 1 cs) (hm : m ≤ n) : Src W (.slice A m c) m 1 (cs.take m) := by
  have hl := h.len
  refine ⟨?_, by rw [List.length_take]; omega, fun u hu => h.one u (List.mem_of_mem_take hu)⟩
  obtain ⟨B, c', e, hB⟩ := h.val
  cases e
  refine ⟨_, _, rfl, ?_⟩
  rcases hB with ⟨e, h0⟩ | ⟨ad, e, hc⟩
  · exact .inl ⟨e, by omega⟩
  · refine .inr ⟨ad, e, fun j u hu => hc j u ?_⟩
    by_cases hj : j < m
    · rwa [List.getElem?_take_of_lt hj] at hu
    · rw [List.getElem?_eq_none (by rw [List.length_take]; omega)] at hu; cases hu
theorem Src.tail {A : Option Addr} {n c m : Nat} {cs : List Value} (h : Src W (.slice A n c) n 1 cs) (hm : m ≤ n) (hc : n ≤ c) : Src W (.slice (cutA A c m 1) (n - m) (c - m)) (n - m) 1 (cs.drop m) := by
  have hl := h.len
  refine ⟨?_, by rw [List.length_drop]; omega, fun u hu => h.one u (List.mem_of_mem_drop hu)⟩
  obtain ⟨B, c', e, hB⟩ := h.val
  cases e
  refine ⟨_, _, rfl, ?_⟩
  rcases hB with ⟨e, h0⟩ | ⟨ad, e, hc2⟩
  · exact .inl ⟨by unfold cutA; rw [e]; split <;> rfl, by omega⟩
  · subst e
    unfold cutA
    by_cases hcm : c = m
    · rw [if_pos hcm]
      refine .inr ⟨ad, rfl, fun j u hu => ?_⟩
      rw [List.getElem?_eq_none (by rw [List.length_drop]; omega)] at hu; cases hu
    · rw [if_neg hcm]
      refine .inr ⟨_, rfl, fun j u hu => ?_⟩
      rw [List.getElem?_drop] at hu
      rw [Nat.mul_one, add_add_]
      exact hc2 _ u hu
/-- copy(x, y) into a row of one's own; all of y goes over. -/
theorem kcp {t e' : TypeId} {x y : Operand} (HS : St W0 M W L) (i : Nat) {g n c e : Nat} {cs news : List Value} (hi : L[i]? = some (row (some ⟨g, 0, none⟩) n c cs e 1)) (o dl dc : Nat) {sv : Value} {m : Nat} (hsrc : Src W sv m 1 news) (hm : m ≤ dl) (hfit : o + m ≤ cs.length)
    (hw : Region.wanted ⟨some d, .call { callee := .builtin .copy, args := #[x, y], argTypes := #[t, t] }, ty, ps, af, gd⟩ (yielded ops (Fr l).tmps) = true)
    (hx : (Fr l).eval x = .slice (some ⟨g, o, none⟩) dl dc) (hy : (Fr l).eval y = sv) (ht : P.underlying t = some (.slice e')) (hs : (P.info? e').map (·.size) = some 1)
    (h : ∀ W', St W0 M W' (L.set i (row (some ⟨g, 0, none⟩) n c (splice cs o news) e 1)) → wpList P ops Q rest (Fr (l.set d (.int .i64 m))) W') :
    wpList P ops Q (⟨some d, .call { callee := .builtin .copy, args := #[x, y], argTypes := #[t, t] }, ty, ps, af, gd⟩ :: rest) (Fr l) W := by
  obtain ⟨B, c2, rfl, hB⟩ := hsrc.val
  have hl : news.length = m := by have := hsrc.len; omega
  rcases hB with ⟨rfl, rfl⟩ | ⟨ad, rfl, hc⟩
  · have hn : news = [] := List.eq_nil_of_length_eq_zero hl
    subst hn
    refine qw (.int .i64 0) hw (by simp [execOp, resolve, invoke, builtin, hx, hy, run_copy_none W t t ty e' (some ⟨g, o, none⟩) none dl dc 0 c2 ht hs (by simp), goInt]) (h W ?_)
    rw [splice_eq _ _ _ (by simp; omega)]
    simp
    exact HS.turn hi id (fun _ h => h)
  · obtain ⟨cur, hg, hle, hst⟩ := HS.setRow_ hi o news (by omega)
    have hrun := run_copy_row P W t t ty e' g o dl dc ad m c2 cur.toArray e news ht hs hg (by rw [hl]; exact (Nat.min_eq_left hm).symm) hc (by simp; omega) hsrc.one
    rw [splice_eq _ _ _ (by omega), hl] at hst
    refine qw (.int .i64 m) hw ?_ (h _ hst)
    rw [hl] at hrun
    simp [execOp, resolve, invoke, builtin, hx, hy, hrun, goInt]
theorem R_rem {t t2 : TypeId} {x y : Operand} {i j : Nat} (hx : a.eval x = .int .i64 i) (hy : a.eval y = .int .i64 j) (h : 0 < j) (hi : i ≤ 9223372036854775807) : (execOp a.eval ⟨dst, .binOp .rem t x y t2, ty, ps, af, gd⟩).run P W = .ok (.value (.int .i64 ((i % j : Nat) : Int))) W := by
  have hj : ¬ ((j : Int) = 0) := by omega
  have e : ((i : Int).tmod (j : Int)) = ((i % j : Nat) : Int) := (Int.ofNat_tmod i j).symm
  have hd : (Op.intDiv .rem .i64 (i : Int) (j : Int)) = pure (.int .i64 ((i % j : Nat) : Int)) := by unfold Op.intDiv; rw [if_neg hj, e]
  simp [execOp, hx, hy, eqGuard_rem, binOp_rem, hd]
end
/-! ### a ring of whole numbers -/
def ring (bs : List Int) (f n : Nat) : List Int := (List.range n).map fun i => bs.getD ((f + i) % bs.length) 0
structure RQ (bs : List Int) (f n : Nat) (xs : List Int) : Prop where
  hn : n ≤ bs.length
  hf : 0 < bs.length → f < bs.length
  h0 : bs.length = 0 → f = 0
  hb : bs.length ≤ 4398046511104
  hx : xs = ring bs f n
theorem RQ.len {bs xs : List Int} {f n : Nat} (h : RQ bs f n xs) : xs.length = n := by rw [h.hx]; unfold ring; simp
theorem RQ.nil : RQ [] 0 0 [] := ⟨Nat.le_refl _, fun h => by simp at h, fun _ => rfl, by simp, rfl⟩
theorem RQ.grow {bs xs zs : List Int} {f n : Nat} (h : RQ bs f n xs) (hn : n = bs.length) {q : List Int} (hq : q = bs.drop f ++ bs.take f ++ zs) (hl : q.length ≤ 4398046511104) (h0 : 0 < q.length) : RQ q 0 n xs := by
  have hl2 : q.length = bs.length + zs.length := by
    rw [hq]; simp only [List.length_append, List.length_drop, List.length_take]
    have := h.hf; have := h.h0; omega
  refine ⟨by omega, fun _ => h0, fun _ => rfl, hl, ?_⟩
  rw [h.hx]
  unfold ring
  apply List.map_congr_left
  intro i hi
  have hi2 : i < n := by simpa using hi
  have hfb := h.hf (by omega)
  rw [Nat.zero_add, Nat.mod_eq_of_lt (a := i) (by omega), hq]
  simp only [List.getD_eq_getElem?_getD]
  congr 1
  by_cases hc : i < bs.length - f
  · rw [Nat.mod_eq_of_lt (by omega), List.append_assoc, List.getElem?_append_left (by rw [List.length_drop]; omega), List.getElem?_drop]
  · rw [Nat.mod_eq_sub_mod (by omega), Nat.mod_eq_of_lt (by omega), List.append_assoc, List.getElem?_append_right (by rw [List.length_drop]; omega), List.length_drop, List.getElem?_append_left (by rw [List.length_take]; omega), List.getElem?_take_of_lt (by omega)]
    congr 1
    omega
theorem RQ.push {bs xs : List Int} {f n : Nat} (h : RQ bs f n xs) (hn : n < bs.length) (v : Int) {q : List Int} (hq : q = bs.set ((f + n) % bs.length) v) : RQ q f (n + 1) (xs ++ [v]) := by
  have hl : q.length = bs.length := by rw [hq, List.length_set]
  have hfb := h.hf (by omega)
  have hm : (f + n) % bs.length < bs.length := Nat.mod_lt _ (by omega)
  refine ⟨by omega, fun _ => by omega, fun h2 => by omega, by have := h.hb; omega, ?_⟩
  rw [h.hx]
  unfold ring
  rw [List.range_succ, List.map_append, hl]
  congr 1
  · apply List.map_congr_left
    intro i hi
    have hi2 : i < n := by simpa using hi
    have hne : (f + n) % bs.length ≠ (f + i) % bs.length := by
      intro e
      by_cases h1 : f + n < bs.length
      · rw [Nat.mod_eq_of_lt h1, Nat.mod_eq_of_lt (by omega)] at e; omega
      · rw [Nat.mod_eq_sub_mod (by omega), Nat.mod_eq_of_lt (a := f + n - bs.length) (by omega)] at e
        by_cases h2 : f + i < bs.length
        · rw [Nat.mod_eq_of_lt h2] at e; omega
        · rw [Nat.mod_eq_sub_mod (by omega), Nat.mod_eq_of_lt (by omega)] at e; omega
    rw [hq]
    simp only [List.getD_eq_getElem?_getD]
    rw [List.getElem?_set_ne hne]
  · rw [hq]
    simp [hm]
theorem RQ.pop {bs xs : List Int} {f n : Nat} (h : RQ bs f n xs) (hn : 0 < n) {q : List Int} (hq : q = bs.set f 0) : xs = bs.getD f 0 :: xs.tail ∧ RQ q ((f + 1) % bs.length) (n - 1) xs.tail := by
  have hnb := h.hn
  have hfb := h.hf (by omega)
  have hl : q.length = bs.length := by rw [hq, List.length_set]
  obtain ⟨m, rfl⟩ : ∃ m, n = m + 1 := ⟨n - 1, by omega⟩
  have e1 : xs = bs.getD f 0 :: (List.range m).map (fun i => bs.getD ((f + (i + 1)) % bs.length) 0) := by
    rw [h.hx]
    unfold ring
    rw [List.range_succ_eq_map, List.map_cons, List.map_map, Nat.add_zero, Nat.mod_eq_of_lt hfb]
    rfl
  refine ⟨by rw [e1]; rfl, by omega, fun _ => by rw [hl]; exact Nat.mod_lt _ (by omega), fun h2 => by omega, by have := h.hb; omega, ?_⟩
  rw [e1, List.tail_cons]
  unfold ring
  rw [hl, Nat.add_sub_cancel]
  apply List.map_congr_left
  intro i hi
  have hi2 : i < m := by simpa using hi
  have e2 : ((f + 1) % bs.length + i) % bs.length = (f + (i + 1)) % bs.length := by rw [Nat.add_mod, Nat.mod_mod, ← Nat.add_mod]; congr 1; omega
  have hne : f ≠ (f + (i + 1)) % bs.length := by
    intro e
    by_cases h1 : f + (i + 1) < bs.length
    · rw [Nat.mod_eq_of_lt h1] at e; omega
    · rw [Nat.mod_eq_sub_mod (by omega), Nat.mod_eq_of_lt (by omega)] at e; omega
  rw [e2, hq]
  simp only [List.getD_eq_getElem?_getD]
  rw [List.getElem?_set_ne hne]
theorem ci_splice {k : IntKind} {xs ys : List Int} {o : Nat} (h : o + ys.length ≤ xs.length) : splice (ci k xs) o (ci k ys) = ci k (xs.take o ++ ys ++ xs.drop (o + ys.length)) := by
  rw [splice_eq _ _ _ (by rw [ci_len, ci_len]; exact h), ci_len]
  simp [ci, List.map_take, List.map_drop]
theorem ci_drop {k : IntKind} {xs : List Int} {m : Nat} : (ci k xs).drop m = ci k (xs.drop m) := by simp [ci, List.map_drop]
theorem ci_take' {k : IntKind} {xs : List Int} {m : Nat} : (ci k xs).take m = ci k (xs.take m) := by simp [ci, List.map_take]
theorem ring_copy {bs q1 q2 : List Int} {f m : Nat} (hf : f ≤ bs.length) (hm : bs.length ≤ m) (h1 : q1 = (List.replicate m (0 : Int)).take 0 ++ bs.drop f ++ (List.replicate m (0 : Int)).drop (0 + (bs.drop f).length)) (h2 : q2 = q1.take (bs.length - f) ++ bs.take f ++ q1.drop (bs.length - f + (bs.take f).length)) : q2 = bs.drop f ++ bs.take f ++ List.replicate (m - bs.length) 0 := by
  have e1 : q1 = bs.drop f ++ List.replicate (m - (bs.length - f)) 0 := by rw [h1]; simp
  have e2 : q1.take (bs.length - f) = bs.drop f := by rw [e1, List.take_append_of_le_length (by simp), List.take_of_length_le (by simp)]
  have e3 : q1.drop (bs.length - f + (bs.take f).length) = List.replicate (m - bs.length) 0 := by
    rw [e1, List.drop_append, List.drop_eq_nil_of_le (by simp), List.nil_append, List.drop_replicate]
    congr 1
    simp only [List.length_take, List.length_drop]
    omega
  rw [h2, e2, e3]
theorem take_rd {xs : List Int} {i : Int} (h0 : 0 ≤ i) (h1 : i < xs.length) : xs.take (i + 1).toNat = xs.take i.toNat ++ [rdI xs i] := by
  have h : i.toNat < xs.length := by omega
  rw [show (i + 1).toNat = i.toNat + 1 by omega, List.take_succ_eq_append_getElem h]
  unfold rdI
  rw [List.getD_eq_getElem?_getD, List.getElem?_eq_getElem h]
  rfl
section
variable {P : Program} {a : Act} {W : World} {dst : Option Nat} {ty : TypeId} {ps : String} {af : Array Edge} {gd : Option (Nat × Bool)}
theorem R_max {x y : Operand} {k : IntKind} {i j : Int} {ts : Array TypeId} (hx : a.eval x = .int k i) (hy : a.eval y = .int k j) :
    (execOp a.eval ⟨dst, .call { callee := .builtin .max, args := #[x, y], argTypes := ts }, ty, ps, af, gd⟩).run P W = .ok (.value (.int k (max i j))) W := by
  have e : (if i < j then j else i) = max i j := by split <;> omega
  simp [execOp, resolve, invoke, builtin, hx, hy, Builtin.max_, Builtin.max2, e]
end
/-! ### chapter 13: how far -/
def ng (ds : List Int) : Nat := ds.countP (fun b => decide (b < 0))
theorem ng_set {ds : List Int} {w x : Int} (h0 : 0 ≤ w) (h1 : w < ds.length) (h : rdI ds w < 0) (hx : 0 ≤ x) : ng (ds.set w.toNat x) + 1 = ng ds := by
  unfold ng
  have hw : w.toNat < ds.length := by omega
  have he : ds[w.toNat] = rdI ds w := by have := rdI_eq h0 h1; rw [List.getElem?_eq_getElem hw] at this; exact Option.some.inj this
  rw [List.countP_set hw, he]
  have : 0 < List.countP (fun b => decide (b < 0)) ds := List.countP_pos_iff.2 ⟨_, List.getElem_mem hw, by rw [he]; simpa using h⟩
  rw [if_pos (by simpa using h), if_neg (by simpa using hx)]
  omega
theorem ng_rep (n : Nat) : ng (List.replicate n (-1)) = n := by
  unfold ng; rw [List.countP_replicate]; simp
attribute [irreducible] ng
structure DS (N : Nat) (arcs : List (Int × Int)) (v : Int) (ds : List Int) : Prop where
  ld : ds.length = N
  lo : ∀ w : Int, 0 ≤ w → w < N → -1 ≤ rdI ds w
  ze : ∀ w : Int, 0 ≤ w → w < N → (rdI ds w = 0 ↔ w = v)
  pr : ∀ w : Int, 0 ≤ w → w < N → 0 < rdI ds w → ∃ i : Int, 0 ≤ i ∧ i < arcs.length ∧ (gx arcs i).2 = w ∧ rdI ds (gx arcs i).1 = rdI ds w - 1
  ar : ∀ i : Int, 0 ≤ i → i < arcs.length → 0 ≤ rdI ds (gx arcs i).1 → 0 ≤ rdI ds (gx arcs i).2 ∧ rdI ds (gx arcs i).2 ≤ rdI ds (gx arcs i).1 + 1
structure BK (N : Nat) (arcs : List (Int × Int)) (ds bs : List Int) : Prop where
  lb : bs.length = N
  no : ∀ w : Int, 0 ≤ w → w < N → rdI ds w ≤ 0 → rdI bs w = -1
  bk : ∀ w : Int, 0 ≤ w → w < N → 0 < rdI ds w → 0 ≤ rdI bs w ∧ rdI bs w < arcs.length ∧ (gx arcs (rdI bs w)).2 = w ∧ rdI ds (gx arcs (rdI bs w)).1 = rdI ds w - 1
  le : ∀ i : Int, 0 ≤ i → i < arcs.length → 0 ≤ rdI ds (gx arcs i).1 → rdI ds (gx arcs i).2 = rdI ds (gx arcs i).1 + 1 → rdI bs (gx arcs i).2 ≤ i
theorem gx_fine {N : Nat} {arcs : List (Int × Int)} (hF : Fine N arcs) {i : Int} (h0 : 0 ≤ i) (h1 : i < arcs.length) : 0 ≤ (gx arcs i).1 ∧ (gx arcs i).1 < N ∧ 0 ≤ (gx arcs i).2 ∧ (gx arcs i).2 < N := hF _ (List.mem_of_getElem? (gx_eq h0 h1))
theorem rdI_in {xs : List Int} {i : Int} (h0 : 0 ≤ i) (h1 : i < xs.length) : rdI xs i ∈ xs := List.mem_of_getElem? (rdI_eq h0 h1)
theorem ds_le {N : Nat} {arcs : List (Int × Int)} {v : Int} {ds es : List Int} (hF : Fine N arcs) (h : DS N arcs v ds) (k : DS N arcs v es) : ∀ (d : Nat) (w : Int), 0 ≤ w → w < N → rdI ds w = d → 0 ≤ rdI es w ∧ rdI es w ≤ d
  | 0, w, h0, h1, e => by
    have h2 := (h.ze w h0 h1).1 (by omega)
    have h3 := (k.ze w h0 h1).2 h2
    omega
  | d + 1, w, h0, h1, e => by
    obtain ⟨i, i0, i1, it, ifr⟩ := h.pr w h0 h1 (by omega)
    have hf := gx_fine hF i0 i1
    have h2 := ds_le hF h k d _ hf.1 hf.2.1 (by omega)
    have h3 := k.ar i i0 i1 h2.1
    rw [it] at h3
    omega
theorem ds_rd {N : Nat} {arcs : List (Int × Int)} {v : Int} {ds es : List Int} (hF : Fine N arcs) (h : DS N arcs v ds) (k : DS N arcs v es) {w : Int} (h0 : 0 ≤ w) (h1 : w < N) : rdI ds w = rdI es w := by
  have a1 := h.lo w h0 h1
  have a2 := k.lo w h0 h1
  by_cases hd : 0 ≤ rdI ds w
  · have b1 := ds_le hF h k (rdI ds w).toNat w h0 h1 (by omega)
    have b2 := ds_le hF k h (rdI es w).toNat w h0 h1 (by omega)
    omega
  · by_cases he : 0 ≤ rdI es w
    · have b2 := ds_le hF k h (rdI es w).toNat w h0 h1 (by omega)
      omega
    · omega
theorem rd_ext {xs ys : List Int} (hl : xs.length = ys.length) (h : ∀ w : Int, 0 ≤ w → w < xs.length → rdI xs w = rdI ys w) : xs = ys := by
  apply List.ext_getElem?
  intro j
  rcases Nat.lt_or_ge j xs.length with hj | hj
  · have h1 := rdI_eq (xs := xs) (i := (j : Int)) (by omega) (by omega)
    have h2 := rdI_eq (xs := ys) (i := (j : Int)) (by omega) (by omega)
    rw [Int.toNat_natCast] at h1 h2
    rw [h1, h2, h _ (by omega) (by omega)]
  · rw [List.getElem?_eq_none hj, List.getElem?_eq_none (by omega)]
theorem ds_eq {N : Nat} {arcs : List (Int × Int)} {v : Int} {ds es : List Int} (hF : Fine N arcs) (h : DS N arcs v ds) (k : DS N arcs v es) : ds = es :=
  rd_ext (h.ld.trans k.ld.symm) (fun w h0 h1 => ds_rd hF h k h0 (by have := h.ld; omega))
theorem cnt_pos {ks : List Int} {v : Int} (h : v ∈ ks) : 0 < cnt ks v := by
  unfold cnt; exact List.countP_pos_iff.2 ⟨v, h, by simp⟩
theorem lvl_low {N : Nat} {arcs : List (Int × Int)} {v : Int} {ds : List Int} (hl : ds.length = N)
    (pr : ∀ w : Int, 0 ≤ w → w < N → 0 < rdI ds w → ∃ i : Int, 0 ≤ i ∧ i < arcs.length ∧ (gx arcs i).2 = w ∧ rdI ds (gx arcs i).1 = rdI ds w - 1) (hF : Fine N arcs) : ∀ (d : Nat) (w : Int), 0 ≤ w → w < N → rdI ds w = d → d + 1 ≤ low ds ((d : Int) + 1)
  | 0, w, h0, h1, e => by
    have hm : rdI ds w ∈ ds := rdI_in h0 (by omega)
    have := cnt_pos hm
    have h2 := low_succ ds ((0 : Nat) : Int)
    rw [e] at this
    omega
  | d + 1, w, h0, h1, e => by
    obtain ⟨i, i0, i1, it, ifr⟩ := pr w h0 h1 (by omega)
    have hf := gx_fine hF i0 i1
    have h2 := lvl_low (v := v) hl pr hF d _ hf.1 hf.2.1 (by omega)
    have hm : rdI ds w ∈ ds := rdI_in h0 (by omega)
    have := cnt_pos hm
    have h3 := low_succ ds (((d + 1 : Nat) : Int))
    rw [e] at this
    rw [show ((d + 1 : Nat) : Int) = (d : Int) + 1 by omega] at *
    omega
theorem lvl {N : Nat} {arcs : List (Int × Int)} {v : Int} {ds : List Int} (hl : ds.length = N) (ze : ∀ w : Int, 0 ≤ w → w < N → (rdI ds w = 0 ↔ w = v))
    (pr : ∀ w : Int, 0 ≤ w → w < N → 0 < rdI ds w → ∃ i : Int, 0 ≤ i ∧ i < arcs.length ∧ (gx arcs i).2 = w ∧ rdI ds (gx arcs i).1 = rdI ds w - 1) (hF : Fine N arcs) {w : Int} (h0 : 0 ≤ w) (h1 : w < N) : rdI ds w < N := by
  by_cases h : rdI ds w < 0
  · omega
  · have h2 := lvl_low (v := v) hl pr hF (rdI ds w).toNat w h0 h1 (by omega)
    have h3 := low_le ds (((rdI ds w).toNat : Int) + 1)
    omega
theorem ds_none {N : Nat} {arcs : List (Int × Int)} {v : Int} (hF : Fine N arcs) (hv : ¬ (0 ≤ v ∧ v < N)) : DS N arcs v (List.replicate N (-1)) := by
  refine ⟨List.length_replicate, fun w a b => ?_, fun w a b => ?_, fun w a b hp => ?_, fun i a b hp => ?_⟩
  · rw [rdI_rep a b]; omega
  · rw [rdI_rep a b]; constructor
    · intro h; omega
    · intro h; subst h; exact absurd ⟨a, b⟩ hv
  · rw [rdI_rep a b] at hp; omega
  · have hf := gx_fine hF a b; rw [rdI_rep hf.1 hf.2.1] at hp; omega
theorem bk_none {N : Nat} {arcs : List (Int × Int)} (hF : Fine N arcs) : BK N arcs (List.replicate N (-1)) (List.replicate N (-1)) := by
  refine ⟨List.length_replicate, fun w a b _ => rdI_rep a b, fun w a b hp => ?_, fun i a b hp => ?_⟩
  · rw [rdI_rep a b] at hp; omega
  · have hf := gx_fine hF a b; rw [rdI_rep hf.1 hf.2.1] at hp; omega
/-! the rounds -/
structure BI (N : Nat) (arcs : List (Int × Int)) (v : Int) (G ds bs : List Int) : Prop where
  ld : ds.length = N
  lb : bs.length = N
  lo : ∀ w : Int, 0 ≤ w → w < N → -1 ≤ rdI ds w
  ze : ∀ w : Int, 0 ≤ w → w < N → (rdI ds w = 0 ↔ w = v)
  no : ∀ w : Int, 0 ≤ w → w < N → rdI ds w ≤ 0 → rdI bs w = -1
  bk : ∀ w : Int, 0 ≤ w → w < N → 0 < rdI ds w → 0 ≤ rdI bs w ∧ rdI bs w < arcs.length ∧ (gx arcs (rdI bs w)).2 = w ∧ rdI ds (gx arcs (rdI bs w)).1 = rdI ds w - 1
  gone : ∀ i ∈ G, 0 ≤ i ∧ i < arcs.length ∧ 0 ≤ rdI ds (gx arcs i).1 ∧ 0 ≤ rdI ds (gx arcs i).2 ∧ rdI ds (gx arcs i).2 ≤ rdI ds (gx arcs i).1 + 1 ∧ (rdI ds (gx arcs i).2 = rdI ds (gx arcs i).1 + 1 → rdI bs (gx arcs i).2 ≤ i)
theorem bi_new {N : Nat} {arcs : List (Int × Int)} {v i : Int} {G ds bs ds' bs' : List Int} (hF : Fine N arcs) (h : BI N arcs v G ds bs) (h0 : 0 ≤ i) (h1 : i < arcs.length) (hu : 0 ≤ rdI ds (gx arcs i).1) (hn : rdI ds (gx arcs i).2 < 0)
    (hd : ds' = ds.set (gx arcs i).2.toNat (rdI ds (gx arcs i).1 + 1)) (hb : bs' = bs.set (gx arcs i).2.toNat i) : BI N arcs v (i :: G) ds' bs' := by
  have hf := gx_fine hF h0 h1
  have hl := h.ld
  have hl2 := h.lb
  have rd : ∀ x : Int, 0 ≤ x → rdI ds' x = if x = (gx arcs i).2 then rdI ds (gx arcs i).1 + 1 else rdI ds x := fun x hx => by rw [hd, rdI_set hf.2.2.1 (by omega) hx]
  have rb : ∀ x : Int, 0 ≤ x → rdI bs' x = if x = (gx arcs i).2 then i else rdI bs x := fun x hx => by rw [hb, rdI_set hf.2.2.1 (by omega) hx]
  have hm : ∀ x : Int, 0 ≤ x → 0 ≤ rdI ds x → rdI ds' x = rdI ds x := fun x hx hp => by rw [rd x hx, if_neg]; intro e; subst e; omega
  have hmb : ∀ x : Int, 0 ≤ x → 0 ≤ rdI ds x → rdI bs' x = rdI bs x := fun x hx hp => by rw [rb x hx, if_neg]; intro e; subst e; omega
  have hfr := hm _ hf.1 hu
  refine ⟨by rw [hd, List.length_set]; exact hl, by rw [hb, List.length_set]; exact hl2, fun w a b => ?_, fun w a b => ?_, fun w a b => ?_, fun w a b => ?_, fun j hj => ?_⟩
  · rw [rd w a]; split
    · omega
    · exact h.lo w a b
  · rw [rd w a]; split
    · rename_i e; subst e
      have := h.ze _ a b
      constructor
      · intro h9; omega
      · intro h9; have := this.2 h9; omega
    · exact h.ze w a b
  · rw [rd w a, rb w a]; split
    · intro h9; omega
    · exact h.no w a b
  · by_cases e : w = (gx arcs i).2
    · intro _
      rw [rb w a, if_pos e, rd w a, if_pos e, hfr]
      exact ⟨h0, h1, e.symm, by omega⟩
    · rw [rd w a, if_neg e, rb w a, if_neg e]
      intro hp
      obtain ⟨p1, p2, p3, p4⟩ := h.bk w a b hp
      exact ⟨p1, p2, p3, by rw [hm _ (gx_fine hF p1 p2).1 (by omega), p4]⟩
  · rcases List.mem_cons.1 hj with rfl | hj
    · refine ⟨h0, h1, by omega, ?_, ?_, ?_⟩
      · rw [rd _ hf.2.2.1, if_pos rfl]; omega
      · rw [rd _ hf.2.2.1, if_pos rfl, hfr]; omega
      · intro _; rw [rb _ hf.2.2.1, if_pos rfl]; omega
    · obtain ⟨p1, p2, p3, p4, p5, p6⟩ := h.gone j hj
      have hfj := gx_fine hF p1 p2
      rw [hm _ hfj.1 p3, hm _ hfj.2.2.1 p4, hmb _ hfj.2.2.1 p4]
      exact ⟨p1, p2, p3, p4, p5, p6⟩
theorem bi_min {N : Nat} {arcs : List (Int × Int)} {v i : Int} {G ds bs bs' : List Int} (hF : Fine N arcs) (h : BI N arcs v G ds bs) (h0 : 0 ≤ i) (h1 : i < arcs.length) (hu : 0 ≤ rdI ds (gx arcs i).1) (he : rdI ds (gx arcs i).2 = rdI ds (gx arcs i).1 + 1)
    (hb : bs' = bs.set (gx arcs i).2.toNat (min (rdI bs (gx arcs i).2) i)) : BI N arcs v (i :: G) ds bs' := by
  have hf := gx_fine hF h0 h1
  have hl2 := h.lb
  have rb : ∀ x : Int, 0 ≤ x → rdI bs' x = if x = (gx arcs i).2 then min (rdI bs (gx arcs i).2) i else rdI bs x := fun x hx => by rw [hb, rdI_set hf.2.2.1 (by omega) hx]
  refine ⟨h.ld, by rw [hb, List.length_set]; exact hl2, h.lo, h.ze, fun w a b => ?_, fun w a b => ?_, fun j hj => ?_⟩
  · rw [rb w a]; split
    · rename_i e; subst e; intro h9; omega
    · exact h.no w a b
  · intro hp
    have hk := h.bk w a b hp
    rw [rb w a]; split
    · rename_i e; subst e
      rcases Int.le_total (rdI bs (gx arcs i).2) i with hle | hle
      · rw [Int.min_eq_left hle]; exact hk
      · rw [Int.min_eq_right hle]; exact ⟨h0, h1, rfl, by omega⟩
    · exact hk
  · rcases List.mem_cons.1 hj with rfl | hj
    · refine ⟨h0, h1, hu, by omega, by omega, fun _ => ?_⟩
      rw [rb _ hf.2.2.1, if_pos rfl]; omega
    · obtain ⟨p1, p2, p3, p4, p5, p6⟩ := h.gone j hj
      refine ⟨p1, p2, p3, p4, p5, fun h9 => ?_⟩
      have := p6 h9
      rw [rb _ (gx_fine hF p1 p2).2.2.1]; split
      · rename_i e; rw [e] at this; omega
      · exact this
theorem bi_old {N : Nat} {arcs : List (Int × Int)} {v i : Int} {G ds bs : List Int} (h : BI N arcs v G ds bs) (h0 : 0 ≤ i) (h1 : i < arcs.length) (hu : 0 ≤ rdI ds (gx arcs i).1) (hn : 0 ≤ rdI ds (gx arcs i).2) (he : rdI ds (gx arcs i).2 ≤ rdI ds (gx arcs i).1) : BI N arcs v (i :: G) ds bs := by
  refine ⟨h.ld, h.lb, h.lo, h.ze, h.no, h.bk, fun j hj => ?_⟩
  rcases List.mem_cons.1 hj with rfl | hj
  · exact ⟨h0, h1, hu, hn, by omega, fun h9 => by omega⟩
  · exact h.gone j hj
/-- Behind a round: what waits (xs), which arcs were gone over (G), how many steps there were (c). -/
structure QI (N : Nat) (arcs : List (Int × Int)) (G ds xs : List Int) (c : Nat) : Prop where
  inr : ∀ x ∈ xs, 0 ≤ x ∧ x < N ∧ 0 ≤ rdI ds x
  mono : xs.Pairwise (fun x y => rdI ds x ≤ rdI ds y)
  near : ∀ x ∈ xs, ∀ w : Int, 0 ≤ w → w < N → rdI ds w ≤ rdI ds x + 1
  all : ∀ i : Int, 0 ≤ i → i < arcs.length → 0 ≤ rdI ds (gx arcs i).1 → (gx arcs i).1 ∈ xs ∨ i ∈ G
  nd : xs.Nodup
  apart : ∀ i ∈ G, (gx arcs i).1 ∉ xs
  gnd : G.Nodup
  acc : c + xs.length + ng ds = N + G.length
structure QJ (N : Nat) (arcs : List (Int × Int)) (u : Int) (k : Nat) (G ds xs : List Int) (c : Nat) : Prop where
  ur : 0 ≤ u ∧ u < N ∧ 0 ≤ rdI ds u
  inr : ∀ x ∈ xs, 0 ≤ x ∧ x < N ∧ 0 ≤ rdI ds x
  mono : xs.Pairwise (fun x y => rdI ds x ≤ rdI ds y)
  near : ∀ w : Int, 0 ≤ w → w < N → rdI ds w ≤ rdI ds u + 1
  up : ∀ x ∈ xs, rdI ds u ≤ rdI ds x
  all : ∀ i : Int, 0 ≤ i → i < arcs.length → 0 ≤ rdI ds (gx arcs i).1 → (gx arcs i).1 ∈ xs ∨ i ∈ G ∨ (gx arcs i).1 = u
  part : ∀ i ∈ (idxs (keys false arcs) u).take k, i ∈ G
  nd : xs.Nodup
  nu : u ∉ xs
  apart : ∀ i ∈ G, (gx arcs i).1 ∉ xs ∧ ((gx arcs i).1 = u → i ∈ (idxs (keys false arcs) u).take k)
  gnd : G.Nodup
  acc : c + xs.length + ng ds = N + G.length
theorem mem_idxs {arcs : List (Int × Int)} {u i : Int} : i ∈ idxs (keys false arcs) u ↔ 0 ≤ i ∧ i < arcs.length ∧ (gx arcs i).1 = u := by
  constructor
  · intro h
    obtain ⟨h0, h1, h2⟩ := idxs_mem h
    rw [keys_len] at h1
    rw [keys_get h0 h1] at h2
    refine ⟨h0, h1, ?_⟩
    have := Option.some.inj h2; unfold key at this; simpa using this
  · rintro ⟨h0, h1, h2⟩
    have hk := keys_get (b := false) (arcs := arcs) h0 h1
    unfold idxs
    simp only [List.mem_map, List.mem_filter, List.mem_range]
    refine ⟨i.toNat, ⟨by rw [keys_len]; omega, ?_⟩, by omega⟩
    rw [List.getD_eq_getElem?_getD, hk]
    unfold key; simpa using h2
theorem idxs_nodup (ks : List Int) (v : Int) : (idxs ks v).Nodup := by
  unfold idxs
  refine List.Pairwise.map _ (fun a b h => ?_) ((List.nodup_range).filter _)
  intro e; exact h (by omega)
theorem qj_start {N : Nat} {arcs : List (Int × Int)} {G ds xs : List Int} {c : Nat} (h : QI N arcs G ds xs c) (h0 : 0 < xs.length) : QJ N arcs (rdI xs 0) 0 G ds xs.tail (c + 1) := by
  obtain ⟨u, ys, rfl⟩ : ∃ u ys, xs = u :: ys := by cases xs with | nil => simp at h0 | cons u ys => exact ⟨u, ys, rfl⟩
  have e : rdI (u :: ys) 0 = u := by unfold rdI; rfl
  rw [e, List.tail_cons]
  have hm := List.pairwise_cons.1 h.mono
  have hn := List.nodup_cons.1 h.nd
  refine ⟨h.inr u (List.mem_cons_self ..), fun x hx => h.inr x (List.mem_cons_of_mem _ hx), hm.2, h.near u (List.mem_cons_self ..), hm.1, fun i a b hp => ?_, fun i hi => by simp at hi, hn.2, hn.1, fun i hi => ⟨fun h9 => h.apart i hi (List.mem_cons_of_mem _ h9), fun h9 => absurd (h9 ▸ List.mem_cons_self ..) (h.apart i hi)⟩, h.gnd, by have := h.acc; rw [List.length_cons] at this; omega⟩
  rcases h.all i a b hp with h1 | h1
  · rcases List.mem_cons.1 h1 with h2 | h2
    · exact .inr (.inr h2)
    · exact .inl h2
  · exact .inr (.inl h1)
theorem qj_end {N : Nat} {arcs : List (Int × Int)} {u : Int} {k : Nat} {G ds xs : List Int} {c : Nat} (h : QJ N arcs u k G ds xs c) (hk : (idxs (keys false arcs) u).length ≤ k) : QI N arcs G ds xs c := by
  refine ⟨h.inr, h.mono, fun x hx w a b => ?_, fun i a b hp => ?_, h.nd, fun i hi => (h.apart i hi).1, h.gnd, h.acc⟩
  · have := h.near w a b; have := h.up x hx; omega
  · rcases h.all i a b hp with h1 | h1 | h1
    · exact .inl h1
    · exact .inr h1
    · exact .inr (h.part i (by rw [List.take_of_length_le hk]; exact mem_idxs.2 ⟨a, b, h1⟩))
theorem qj_at {arcs : List (Int × Int)} {u q : Int} (q0 : 0 ≤ q) (q1 : q < (idxs (keys false arcs) u).length) : 0 ≤ rdI (idxs (keys false arcs) u) q ∧ rdI (idxs (keys false arcs) u) q < arcs.length ∧ (gx arcs (rdI (idxs (keys false arcs) u) q)).1 = u :=
  mem_idxs.1 (List.mem_of_getElem? (rdI_eq q0 q1))
theorem nd_take {L : List Int} (h : L.Nodup) {q : Int} (q0 : 0 ≤ q) (q1 : q < L.length) : rdI L q ∉ L.take q.toNat := by
  intro hm
  have h2 := (List.take_append_drop q.toNat L) ▸ h
  have h3 := (List.nodup_append.1 h2).2.2 _ hm (rdI L q) ?_
  · exact h3 rfl
  · rw [List.drop_eq_getElem_cons (by omega : q.toNat < L.length)]
    have := rdI_eq q0 q1; rw [List.getElem?_eq_getElem (by omega)] at this
    rw [Option.some.inj this]; exact List.mem_cons_self ..
theorem qj_gone {N : Nat} {arcs : List (Int × Int)} {u q i : Int} {G ds xs : List Int} {c : Nat} (h : QJ N arcs u q.toNat G ds xs c) (q0 : 0 ≤ q) (q1 : q < (idxs (keys false arcs) u).length) (hi : i = rdI (idxs (keys false arcs) u) q) : QJ N arcs u (q + 1).toNat (i :: G) ds xs (c + 1) := by
  subst hi
  have ha := qj_at q0 q1
  have htk := take_rd (xs := idxs (keys false arcs) u) q0 q1
  refine ⟨h.ur, h.inr, h.mono, h.near, h.up, fun j a b hp => ?_, fun j hj => ?_, h.nd, h.nu, fun j hj => ?_, ?_, by have := h.acc; rw [List.length_cons]; omega⟩
  · rcases h.all j a b hp with h1 | h1 | h1
    · exact .inl h1
    · exact .inr (.inl (List.mem_cons_of_mem _ h1))
    · exact .inr (.inr h1)
  · rw [htk] at hj
    rcases List.mem_append.1 hj with h1 | h1
    · exact List.mem_cons_of_mem _ (h.part j h1)
    · rw [List.mem_singleton] at h1; rw [h1]; exact List.mem_cons_self ..
  · rw [htk]
    rcases List.mem_cons.1 hj with rfl | hj
    · refine ⟨by rw [ha.2.2]; exact h.nu, fun _ => List.mem_append_right _ (List.mem_singleton_self _)⟩
    · exact ⟨(h.apart j hj).1, fun e => List.mem_append_left _ ((h.apart j hj).2 e)⟩
  · refine List.nodup_cons.2 ⟨fun hg => ?_, h.gnd⟩
    exact nd_take (idxs_nodup _ _) q0 q1 ((h.apart _ hg).2 ha.2.2)
theorem qj_push {N : Nat} {arcs : List (Int × Int)} {u t : Int} {k : Nat} {G ds xs ds' : List Int} {c : Nat} (hl : ds.length = N) (h : QJ N arcs u k G ds xs c) (hg : ∀ j ∈ G, 0 ≤ rdI ds (gx arcs j).1) (hF : Fine N arcs) (t0 : 0 ≤ t) (t1 : t < N) (hn : rdI ds t < 0) (hd : ds' = ds.set t.toNat (rdI ds u + 1)) : QJ N arcs u k G ds' (xs ++ [t]) c := by
  have rd : ∀ x : Int, 0 ≤ x → rdI ds' x = if x = t then rdI ds u + 1 else rdI ds x := fun x hx => by rw [hd, rdI_set t0 (by omega) hx]
  have hm : ∀ x : Int, 0 ≤ x → 0 ≤ rdI ds x → rdI ds' x = rdI ds x := fun x hx hp => by rw [rd x hx, if_neg]; intro e; subst e; omega
  have hu := hm u h.ur.1 h.ur.2.2
  have hx9 : ∀ x ∈ xs, rdI ds' x = rdI ds x := fun x hx => hm x (h.inr x hx).1 (h.inr x hx).2.2
  have htx : t ∉ xs := fun h9 => by have := (h.inr t h9).2.2; omega
  have htu : t ≠ u := fun e => by subst e; have := h.ur.2.2; omega
  have hself : rdI ds' t = rdI ds u + 1 := by rw [rd t t0, if_pos rfl]
  refine ⟨by rw [hu]; exact h.ur, fun x hx => ?_, ?_, fun w a b => ?_, fun x hx => ?_, fun j a b hp => ?_, h.part, ?_, ?_, fun j hj => ?_, h.gnd, ?_⟩
  · rcases List.mem_append.1 hx with h9 | h9
    · rw [hx9 x h9]; exact h.inr x h9
    · rw [List.mem_singleton] at h9; subst h9; rw [hself]; have := h.ur; exact ⟨t0, t1, by omega⟩
  · refine List.pairwise_append.2 ⟨h.mono.imp_of_mem (fun {x y} hx hy hxy => by rw [hx9 x hx, hx9 y hy]; exact hxy), List.pairwise_singleton _ _, fun x hx y hy => ?_⟩
    rw [List.mem_singleton] at hy; subst hy
    rw [hx9 x hx, hself]
    have := h.up x hx
    have := h.near x (h.inr x hx).1 (h.inr x hx).2.1
    omega
  · rw [hu, rd w a]; split
    · omega
    · exact h.near w a b
  · rw [hu]
    rcases List.mem_append.1 hx with h9 | h9
    · rw [hx9 x h9]; exact h.up x h9
    · rw [List.mem_singleton] at h9; subst h9; rw [hself]; omega
  · have hfj := gx_fine hF a b
    by_cases e : (gx arcs j).1 = t
    · exact .inl (List.mem_append_right _ (by rw [e]; exact List.mem_singleton_self _))
    · rw [rd _ hfj.1, if_neg e] at hp
      rcases h.all j a b hp with h1 | h1 | h1
      · exact .inl (List.mem_append_left _ h1)
      · exact .inr (.inl h1)
      · exact .inr (.inr h1)
  · refine List.nodup_append.2 ⟨h.nd, List.nodup_cons.2 ⟨by simp, List.nodup_nil⟩, fun x hx y hy => ?_⟩
    rw [List.mem_singleton] at hy; subst hy
    intro e; subst e; exact htx hx
  · intro h9
    rcases List.mem_append.1 h9 with h1 | h1
    · exact h.nu h1
    · rw [List.mem_singleton] at h1; exact htu h1.symm
  · refine ⟨fun h9 => ?_, (h.apart j hj).2⟩
    rcases List.mem_append.1 h9 with h1 | h1
    · exact (h.apart j hj).1 h1
    · rw [List.mem_singleton] at h1
      have := hg j hj
      rw [h1] at this; omega
  · have h3 := h.acc
    have h4 := ng_set (x := rdI ds u + 1) t0 (by omega) hn (by have := h.ur.2.2; omega)
    rw [← hd] at h4
    rw [List.length_append, List.length_singleton]
    omega
theorem nodup_le : ∀ (M : Nat) (G : List Int), G.Nodup → (∀ x ∈ G, 0 ≤ x ∧ x < M) → G.length ≤ M
  | 0, G, _, h => by
    cases G with
    | nil => exact Nat.le_refl _
    | cons x G => have := h x (List.mem_cons_self ..); omega
  | M + 1, G, hn, h => by
    have h2 := nodup_le M (G.erase (M : Int)) (hn.erase _) (fun x hx => by
      have h3 := (hn.mem_erase_iff).1 hx
      have := h x h3.2
      have := h3.1
      omega)
    have h4 := List.length_erase (a := (M : Int)) (l := G)
    split at h4 <;> omega
theorem bq_bound {N : Nat} {arcs : List (Int × Int)} {v : Int} {G ds bs xs : List Int} {c : Nat} (hB : BI N arcs v G ds bs) (h : QI N arcs G ds xs c) : c ≤ N + arcs.length ∧ xs.length ≤ N ∧ G.length ≤ arcs.length := by
  have h1 := nodup_le arcs.length G h.gnd (fun x hx => ⟨(hB.gone x hx).1, (hB.gone x hx).2.1⟩)
  have h2 := h.acc
  have h3 := nodup_le N xs h.nd (fun x hx => ⟨(h.inr x hx).1, (h.inr x hx).2.1⟩)
  omega
theorem bj_bound {N : Nat} {arcs : List (Int × Int)} {v u : Int} {k : Nat} {G ds bs xs : List Int} {c : Nat} (hB : BI N arcs v G ds bs) (h : QJ N arcs u k G ds xs c) : c ≤ N + arcs.length ∧ xs.length ≤ N ∧ G.length ≤ arcs.length := by
  have h1 := nodup_le arcs.length G h.gnd (fun x hx => ⟨(hB.gone x hx).1, (hB.gone x hx).2.1⟩)
  have h2 := h.acc
  have h3 := nodup_le N xs h.nd (fun x hx => ⟨(h.inr x hx).1, (h.inr x hx).2.1⟩)
  omega
theorem bq_start {N : Nat} {arcs : List (Int × Int)} {v : Int} {ds : List Int} (hF : Fine N arcs) (h0 : 0 ≤ v) (h1 : v < N) (hd : ds = (List.replicate N (-1)).set v.toNat 0) : BI N arcs v [] ds (List.replicate N (-1)) ∧ QI N arcs [] ds [v] 0 := by
  have hl : (List.replicate N (-1 : Int)).length = N := List.length_replicate
  have rd : ∀ x : Int, 0 ≤ x → x < N → rdI ds x = if x = v then 0 else -1 := fun x hx hy => by rw [hd, rdI_set h0 (by omega) hx]; split; rfl; exact rdI_rep hx hy
  have hng : ng ds + 1 = N := by
    have := ng_set (ds := List.replicate N (-1)) (w := v) (x := 0) h0 (by omega) (by rw [rdI_rep h0 h1]; omega) (by omega)
    rw [← hd, ng_rep] at this; exact this
  refine ⟨⟨by rw [hd, List.length_set]; exact hl, hl, fun w a b => ?_, fun w a b => ?_, fun w a b _ => rdI_rep a b, fun w a b => ?_, fun i hi => by simp at hi⟩, ⟨fun x hx => ?_, List.pairwise_singleton _ _, fun x hx w a b => ?_, fun i a b hp => ?_, List.nodup_cons.2 ⟨by simp, List.nodup_nil⟩, fun i hi => by simp at hi, List.nodup_nil, ?_⟩⟩
  · rw [rd w a b]; split <;> omega
  · rw [rd w a b]; split
    · rename_i e; exact ⟨fun _ => e, fun _ => rfl⟩
    · rename_i e; exact ⟨fun h => by omega, fun h => absurd h e⟩
  · rw [rd w a b]; split <;> (intro h; omega)
  · rw [List.mem_singleton] at hx; subst hx; rw [rd x h0 h1, if_pos rfl]; exact ⟨h0, h1, Int.le_refl _⟩
  · rw [List.mem_singleton] at hx; subst hx; rw [rd x h0 h1, if_pos rfl, rd w a b]; split <;> omega
  · have hf := gx_fine hF a b
    rw [rd _ hf.1 hf.2.1] at hp
    by_cases e : (gx arcs i).1 = v
    · exact .inl (by rw [e]; exact List.mem_singleton_self _)
    · rw [if_neg e] at hp; omega
  · rw [List.length_singleton, List.length_nil]; omega
theorem bq_done {N : Nat} {arcs : List (Int × Int)} {v : Int} {G ds bs xs : List Int} {c : Nat} (hB : BI N arcs v G ds bs) (h : QI N arcs G ds xs c) (hx : xs.length = 0) : DS N arcs v ds ∧ BK N arcs ds bs := by
  have hx : xs = [] := List.eq_nil_of_length_eq_zero hx
  subst hx
  have hall : ∀ i : Int, 0 ≤ i → i < arcs.length → 0 ≤ rdI ds (gx arcs i).1 → i ∈ G := fun i a b hp => (h.all i a b hp).elim (fun h => by simp at h) id
  refine ⟨⟨hB.ld, hB.lo, hB.ze, fun w a b hp => ?_, fun i a b hp => ?_⟩, ⟨hB.lb, hB.no, hB.bk, fun i a b hp he => ?_⟩⟩
  · obtain ⟨p1, p2, p3, p4⟩ := hB.bk w a b hp; exact ⟨_, p1, p2, p3, p4⟩
  · have := hB.gone i (hall i a b hp); exact ⟨this.2.2.2.1, this.2.2.2.2.1⟩
  · exact (hB.gone i (hall i a b hp)).2.2.2.2.2 he
/-- One arc more. -/
theorem bq_new {N : Nat} {arcs : List (Int × Int)} {v u i q : Int} {G ds bs ds' bs' xs : List Int} {c : Nat} (hF : Fine N arcs) (hB : BI N arcs v G ds bs) (h : QJ N arcs u q.toNat G ds xs c) (q0 : 0 ≤ q) (q1 : q < (idxs (keys false arcs) u).length) (hi : i = rdI (idxs (keys false arcs) u) q) (hn : rdI ds (gx arcs i).2 < 0)
    (hd : ds' = ds.set (gx arcs i).2.toNat (rdI ds u + 1)) (hb : bs' = bs.set (gx arcs i).2.toNat i) : BI N arcs v (i :: G) ds' bs' ∧ QJ N arcs u (q + 1).toNat (i :: G) ds' (xs ++ [(gx arcs i).2]) (c + 1) := by
  have ha := qj_at q0 q1
  rw [← hi] at ha
  have hf := gx_fine hF ha.1 ha.2.1
  refine ⟨bi_new hF hB ha.1 ha.2.1 (by rw [ha.2.2]; exact h.ur.2.2) hn (by rw [ha.2.2]; exact hd) hb, qj_push hB.ld (qj_gone h q0 q1 hi) (fun j hj => ?_) hF hf.2.2.1 hf.2.2.2 hn hd⟩
  rcases List.mem_cons.1 hj with rfl | hj
  · rw [ha.2.2]; exact h.ur.2.2
  · exact (hB.gone j hj).2.2.1
theorem bq_min {N : Nat} {arcs : List (Int × Int)} {v u i q : Int} {G ds bs bs' xs : List Int} {c : Nat} (hF : Fine N arcs) (hB : BI N arcs v G ds bs) (h : QJ N arcs u q.toNat G ds xs c) (q0 : 0 ≤ q) (q1 : q < (idxs (keys false arcs) u).length) (hi : i = rdI (idxs (keys false arcs) u) q) (he : rdI ds (gx arcs i).2 = rdI ds u + 1)
    (hb : bs' = bs.set (gx arcs i).2.toNat (min (rdI bs (gx arcs i).2) i)) : BI N arcs v (i :: G) ds bs' ∧ QJ N arcs u (q + 1).toNat (i :: G) ds xs (c + 1) := by
  have ha := qj_at q0 q1
  rw [← hi] at ha
  exact ⟨bi_min hF hB ha.1 ha.2.1 (by rw [ha.2.2]; exact h.ur.2.2) (by rw [ha.2.2]; exact he) hb, qj_gone h q0 q1 hi⟩
theorem bq_old {N : Nat} {arcs : List (Int × Int)} {v u i q : Int} {G ds bs xs : List Int} {c : Nat} (hF : Fine N arcs) (hB : BI N arcs v G ds bs) (h : QJ N arcs u q.toNat G ds xs c) (q0 : 0 ≤ q) (q1 : q < (idxs (keys false arcs) u).length) (hi : i = rdI (idxs (keys false arcs) u) q) (hn : ¬ rdI ds (gx arcs i).2 < 0) (he : ¬ rdI ds (gx arcs i).2 = rdI ds u + 1) :
    BI N arcs v (i :: G) ds bs ∧ QJ N arcs u (q + 1).toNat (i :: G) ds xs (c + 1) := by
  have ha := qj_at q0 q1
  rw [← hi] at ha
  have hf := gx_fine hF ha.1 ha.2.1
  have := h.near _ hf.2.2.1 hf.2.2.2
  exact ⟨bi_old hB ha.1 ha.2.1 (by rw [ha.2.2]; exact h.ur.2.2) (by omega) (by rw [ha.2.2]; omega), qj_gone h q0 q1 hi⟩
theorem fill_step {N : Nat} {a b i : Int} {xs ys : List Int} (h0 : 0 ≤ i) (h1 : i < N) (hx : xs = List.replicate i.toNat a ++ List.replicate (N - i.toNat) b) (hy : ys = xs.set i.toNat a) : ys = List.replicate (i + 1).toNat a ++ List.replicate (N - (i + 1).toNat) b := by
  rw [hy, hx, List.set_append_right _ _ (by simp), List.length_replicate, Nat.sub_self, show N - i.toNat = (N - (i + 1).toNat) + 1 by omega, List.replicate_succ, List.set_cons_zero, show (i + 1).toNat = i.toNat + 1 by omega, List.replicate_succ', List.append_assoc]
  rfl
section
variable {P : Program} {a : Act} {W : World} {dst : Option Nat} {ty : TypeId} {ps : String} {af : Array Edge} {gd : Option (Nat × Bool)}
theorem R_min {x y : Operand} {k : IntKind} {i j : Int} {ts : Array TypeId} (hx : a.eval x = .int k i) (hy : a.eval y = .int k j) :
    (execOp a.eval ⟨dst, .call { callee := .builtin .min, args := #[x, y], argTypes := ts }, ty, ps, af, gd⟩).run P W = .ok (.value (.int k (min i j))) W := by
  have e : (if i < j then i else j) = min i j := by split <;> omega
  have e2 : (if j < i then j else i) = min i j := by split <;> omega
  simp [execOp, resolve, invoke, builtin, hx, hy, Builtin.min_, Builtin.min2, e, e2]
end
theorem below_gc {W0 W W2 : World} {g t : Nat} {cs : List Value} {L : List Ent} (hb : Below W0.heap.size W0 W) (HS : St W (owns [blk g cs t]) W2 L) (hg : W0.heap.size ≤ g) : Below W0.heap.size W0 W2 := by
  refine ⟨HS.kept.os.trans hb.os, HS.kept.tape.trans hb.tape, HS.kept.output.trans hb.output, Nat.le_trans hb.size HS.kept.size, fun k hk => ?_⟩
  rw [HS.kept.block k (Nat.lt_of_lt_of_le hk hb.size) (fun ⟨e, he, ho⟩ => ?_), hb.block k hk]
  rw [List.mem_singleton] at he; subst he
  have : k = g := ho
  omega
theorem St.newge {W0 W : World} {L : List Ent} {e : Ent} (h : St W0 (owns []) W L) {i : Nat} (hi : L[i]? = some e) {k : Nat} (hk : e.own k) : W0.heap.size ≤ k :=
  ((h.has e (List.mem_of_getElem? hi)).2 k hk).2.elim (fun ⟨_, he, _⟩ => nomatch he) id
/-! the document's rounds -/
structure RD (N : Nat) (arcs : List (Int × Int)) (v t d k : Int) (ds : List Int) : Prop where
  ld : ds.length = N
  lo : ∀ w : Int, 0 ≤ w → w < N → -1 ≤ rdI ds w
  ze : ∀ w : Int, 0 ≤ w → w < N → (rdI ds w = 0 ↔ w = v)
  pr : ∀ w : Int, 0 ≤ w → w < N → 0 < rdI ds w → ∃ i : Int, 0 ≤ i ∧ i < arcs.length ∧ (gx arcs i).2 = w ∧ rdI ds (gx arcs i).1 = rdI ds w - 1
  top : ∀ w : Int, 0 ≤ w → w < N → rdI ds w ≤ t
  ar : ∀ i : Int, 0 ≤ i → i < arcs.length → 0 ≤ rdI ds (gx arcs i).1 → (rdI ds (gx arcs i).1 < d ∨ rdI ds (gx arcs i).1 = d ∧ i < k) → 0 ≤ rdI ds (gx arcs i).2 ∧ rdI ds (gx arcs i).2 ≤ rdI ds (gx arcs i).1 + 1
theorem rd_start {N : Nat} {arcs : List (Int × Int)} {v : Int} {ds : List Int} (hF : Fine N arcs) (h0 : 0 ≤ v) (h1 : v < N) (hd : ds = (List.replicate N (-1)).set v.toNat 0) : RD N arcs v 0 0 0 ds := by
  have hl : (List.replicate N (-1 : Int)).length = N := List.length_replicate
  have rd : ∀ x : Int, 0 ≤ x → x < N → rdI ds x = if x = v then 0 else -1 := fun x hx hy => by rw [hd, rdI_set h0 (by omega) hx]; split; rfl; exact rdI_rep hx hy
  refine ⟨by rw [hd, List.length_set]; exact hl, fun w a b => ?_, fun w a b => ?_, fun w a b => ?_, fun w a b => ?_, fun i a b hp hq => by omega⟩
  · rw [rd w a b]; split <;> omega
  · rw [rd w a b]; split
    · rename_i e; exact ⟨fun _ => e, fun _ => rfl⟩
    · rename_i e; exact ⟨fun h => by omega, fun h => absurd h e⟩
  · rw [rd w a b]; split <;> (intro h; omega)
  · rw [rd w a b]; split <;> omega
theorem rd_in {N : Nat} {arcs : List (Int × Int)} {v d : Int} {ds : List Int} (h : RD N arcs v d d 0 ds) : RD N arcs v (d + 1) d 0 ds :=
  ⟨h.ld, h.lo, h.ze, h.pr, fun w a b => by have := h.top w a b; omega, h.ar⟩
theorem rd_out {N : Nat} {arcs : List (Int × Int)} {v d k : Int} {ds : List Int} (h : RD N arcs v (d + 1) d k ds) (hk : arcs.length ≤ k) : RD N arcs v (d + 1) (d + 1) 0 ds :=
  ⟨h.ld, h.lo, h.ze, h.pr, h.top, fun i a b hp hq => h.ar i a b hp (by omega)⟩
theorem rd_skip {N : Nat} {arcs : List (Int × Int)} {v d i : Int} {ds : List Int} (hF : Fine N arcs) (h : RD N arcs v (d + 1) d i ds) (hn : rdI ds (gx arcs i).1 = d → ¬ rdI ds (gx arcs i).2 < 0) : RD N arcs v (d + 1) d (i + 1) ds :=
  ⟨h.ld, h.lo, h.ze, h.pr, h.top, fun j a b hp hq => by
    by_cases e : j = i
    · subst e
      rcases hq with hq | hq
      · exact h.ar j a b hp (.inl hq)
      · have hf := gx_fine hF a b
        have := h.top _ hf.2.2.1 hf.2.2.2
        have := hn hq.1
        omega
    · exact h.ar j a b hp (by omega)⟩
theorem rd_set {N : Nat} {arcs : List (Int × Int)} {v d i : Int} {ds ds' : List Int} (hF : Fine N arcs) (h : RD N arcs v (d + 1) d i ds) (hd0 : 0 ≤ d) (h0 : 0 ≤ i) (h1 : i < arcs.length) (hu : rdI ds (gx arcs i).1 = d) (hn : rdI ds (gx arcs i).2 < 0) (hd : ds' = ds.set (gx arcs i).2.toNat (d + 1)) : RD N arcs v (d + 1) d (i + 1) ds' := by
  have hf := gx_fine hF h0 h1
  have hl := h.ld
  have rd : ∀ x : Int, 0 ≤ x → rdI ds' x = if x = (gx arcs i).2 then d + 1 else rdI ds x := fun x hx => by rw [hd, rdI_set hf.2.2.1 (by omega) hx]
  have hm : ∀ x : Int, 0 ≤ x → 0 ≤ rdI ds x → rdI ds' x = rdI ds x := fun x hx hp => by rw [rd x hx, if_neg]; intro e; subst e; omega
  have hfr := hm _ hf.1 (by omega)
  refine ⟨by rw [hd, List.length_set]; exact hl, fun w a b => ?_, fun w a b => ?_, fun w a b => ?_, fun w a b => ?_, fun j a b hp hq => ?_⟩
  · rw [rd w a]; split
    · omega
    · exact h.lo w a b
  · rw [rd w a]; split
    · rename_i e; subst e
      have := h.ze _ a b
      constructor
      · intro h9; omega
      · intro h9; have := this.2 h9; omega
    · exact h.ze w a b
  · by_cases e : w = (gx arcs i).2
    · intro _
      refine ⟨i, h0, h1, e.symm, ?_⟩
      rw [hfr, rd w a, if_pos e]; omega
    · rw [rd w a, if_neg e]
      intro hp
      obtain ⟨j, p1, p2, p3, p4⟩ := h.pr w a b hp
      exact ⟨j, p1, p2, p3, by rw [hm _ (gx_fine hF p1 p2).1 (by omega), p4]⟩
  · rw [rd w a]; split
    · omega
    · exact h.top w a b
  · have hfj := gx_fine hF a b
    by_cases e : (gx arcs j).1 = (gx arcs i).2
    · rw [rd _ hfj.1, if_pos e] at hq; omega
    · rw [rd _ hfj.1, if_neg e] at hp hq ⊢
      by_cases e2 : (gx arcs j).2 = (gx arcs i).2
      · rw [rd _ hfj.2.2.1, if_pos e2]
        by_cases e3 : j = i
        · subst e3; omega
        · have h9 := h.ar j a b hp (by omega)
          rw [e2] at h9; omega
      · rw [rd _ hfj.2.2.1, if_neg e2]
        exact h.ar j a b hp (by
          rcases hq with hq | hq
          · exact .inl hq
          · refine .inr ⟨hq.1, ?_⟩
            by_cases e3 : j = i
            · subst e3; exact absurd rfl e2
            · omega)
theorem rd_done {N : Nat} {arcs : List (Int × Int)} {v t d : Int} {ds : List Int} (hF : Fine N arcs) (h : RD N arcs v t d 0 ds) (hd : (N : Int) ≤ d) : DS N arcs v ds :=
  ⟨h.ld, h.lo, h.ze, h.pr, fun i a b hp => h.ar i a b hp (.inl (by
    have hf := gx_fine hF a b
    have := lvl h.ld h.ze h.pr hF hf.1 hf.2.1
    omega))⟩
theorem Rd.ofBlk {W0 W : World} {M : Nat → Prop} {L : List Ent} (HS : St W0 M W L) {i g t : Nat} {cs : List Value} (hi : L[i]? = some (blk g cs t)) : Rd W (some ⟨g, 0, none⟩) cs := by
  intro j v h
  refine ⟨_, rfl, ?_⟩
  have := HS.cell hi (j := j) h
  rwa [show (⟨g, 0, none⟩ : Addr).add j = ⟨g, j, none⟩ by unfold Addr.add; split <;> simp_all]
/-! walks -/
inductive Way (arcs : List (Int × Int)) (a : Int) : Nat → Int → Prop
  | zero : Way arcs a 0 a
  | step {k : Nat} {b c : Int} : Way arcs a k b → (b, c) ∈ arcs → Way arcs a (k + 1) c
theorem way_head {arcs : List (Int × Int)} {a b c : Int} {k : Nat} (ha : (a, b) ∈ arcs) (h : Way arcs b k c) : Way arcs a (k + 1) c := by
  induction h with
  | zero => exact .step .zero ha
  | step _ hb ih => exact .step ih hb
theorem mem_gx {arcs : List (Int × Int)} {b c : Int} (h : (b, c) ∈ arcs) : ∃ i : Int, 0 ≤ i ∧ i < arcs.length ∧ gx arcs i = (b, c) := by
  obtain ⟨i, hi, e⟩ := List.getElem_of_mem h
  refine ⟨(i : Int), by omega, by omega, ?_⟩
  have := gx_eq (xs := arcs) (i := (i : Int)) (by omega) (by omega)
  rw [Int.toNat_natCast, List.getElem?_eq_getElem hi, e] at this
  exact (Option.some.inj this).symm
theorem gx_mem {arcs : List (Int × Int)} {i : Int} (h0 : 0 ≤ i) (h1 : i < arcs.length) : ((gx arcs i).1, (gx arcs i).2) ∈ arcs := List.mem_of_getElem? (gx_eq h0 h1)
theorem of_way {N : Nat} {arcs : List (Int × Int)} {v w : Int} {k : Nat} {ds : List Int} (hF : Fine N arcs) (h : DS N arcs v ds) (h0 : 0 ≤ v) (h1 : v < N) (hw : Way arcs v k w) : 0 ≤ w ∧ w < N ∧ 0 ≤ rdI ds w ∧ rdI ds w ≤ k := by
  induction hw with
  | zero => have := (h.ze v h0 h1).2 rfl; omega
  | step _ hb ih =>
    obtain ⟨i, i0, i1, e⟩ := mem_gx hb
    have hf := gx_fine hF i0 i1
    have h2 := h.ar i i0 i1
    rw [e] at h2 hf
    simp only at h2 hf
    omega
/-! ### chapter 14: walks -/
/-- Which of two lists is less: -1, 0, 1. -/
def lx : List Int → List Int → Int
  | [], [] => 0
  | [], _ :: _ => -1
  | _ :: _, [] => 1
  | x :: xs, y :: ys => if x < y then -1 else if y < x then 1 else lx xs ys
def cmpI (x y : Int) : Int := if x < y then -1 else if y < x then 1 else 0
theorem drop_at {xs : List Int} {i : Int} (h0 : 0 ≤ i) (h1 : i < xs.length) : xs.drop i.toNat = rdI xs i :: xs.drop (i + 1).toNat := by
  have hi : i.toNat < xs.length := by omega
  rw [List.drop_eq_getElem_cons hi, show (i + 1).toNat = i.toNat + 1 by omega]
  congr 1
  have := rdI_eq h0 h1; rw [List.getElem?_eq_getElem hi] at this; exact Option.some.inj this
theorem lx_step {xs ys : List Int} {i : Int} (h0 : 0 ≤ i) (h1 : i < xs.length) (h2 : i < ys.length) (he : rdI xs i = rdI ys i) : lx (xs.drop i.toNat) (ys.drop i.toNat) = lx (xs.drop (i + 1).toNat) (ys.drop (i + 1).toNat) := by
  rw [drop_at h0 h1, drop_at h0 h2, lx, if_neg (by omega), if_neg (by omega)]
theorem lx_lt {xs ys : List Int} {i : Int} (h0 : 0 ≤ i) (h1 : i < xs.length) (h2 : i < ys.length) (he : rdI xs i < rdI ys i) : lx (xs.drop i.toNat) (ys.drop i.toNat) = -1 := by
  rw [drop_at h0 h1, drop_at h0 h2, lx, if_pos he]
theorem lx_gt {xs ys : List Int} {i : Int} (h0 : 0 ≤ i) (h1 : i < xs.length) (h2 : i < ys.length) (he : rdI ys i < rdI xs i) : lx (xs.drop i.toNat) (ys.drop i.toNat) = 1 := by
  rw [drop_at h0 h1, drop_at h0 h2, lx, if_neg (by omega), if_pos he]
theorem lx_long {xs ys : List Int} {i : Int} (h0 : 0 ≤ i) (h1 : i < xs.length) (h2 : (ys.length : Int) ≤ i) : lx (xs.drop i.toNat) (ys.drop i.toNat) = 1 := by
  rw [drop_at h0 h1, show ys.drop i.toNat = [] from List.drop_eq_nil_of_le (by omega)]; rfl
theorem lx_end {xs ys : List Int} {i : Int} (h0 : 0 ≤ i) (h1 : (xs.length : Int) ≤ i) : lx (xs.drop i.toNat) (ys.drop i.toNat) = if i < ys.length then -1 else 0 := by
  rw [show xs.drop i.toNat = [] from List.drop_eq_nil_of_le (by omega)]
  by_cases h : i < ys.length
  · rw [if_pos h, drop_at h0 h]; rfl
  · rw [if_neg h, List.drop_eq_nil_of_le (by omega)]; rfl
theorem rd_rev {xs : List Int} {p : Int} (h0 : 0 ≤ p) (h1 : p < xs.length) : rdI xs.reverse p = rdI xs ((xs.length : Int) - 1 - p) := by
  have a := rdI_eq (xs := xs.reverse) h0 (by rw [List.length_reverse]; exact h1)
  have b := rdI_eq (xs := xs) (i := (xs.length : Int) - 1 - p) (by omega) (by omega)
  rw [List.getElem?_reverse (by omega)] at a
  rw [show ((xs.length : Int) - 1 - p).toNat = xs.length - 1 - p.toNat by omega, a] at b
  exact Option.some.inj b
/-- Half turned. -/
def Rv (xs ys : List Int) (i j : Int) : Prop := ys.length = xs.length ∧ ∀ p : Int, 0 ≤ p → p < xs.length → rdI ys p = if p < i ∨ j < p then rdI xs ((xs.length : Int) - 1 - p) else rdI xs p
theorem rv_start (xs : List Int) : Rv xs xs 0 ((xs.length : Int) - 1) := ⟨rfl, fun p a b => by rw [if_neg (by omega)]⟩
theorem rv_step {xs ys y1 zs : List Int} {i j : Int} (h : Rv xs ys i j) (hij : i + j = (xs.length : Int) - 1) (h0 : 0 ≤ i) (hlt : i < j) (h1 : y1 = ys.set i.toNat (rdI ys j)) (h2 : zs = y1.set j.toNat (rdI ys i)) : Rv xs zs (i + 1) (j - 1) := by
  have hl := h.1
  have hl1 : y1.length = xs.length := by rw [h1, List.length_set]; exact hl
  refine ⟨by rw [h2, List.length_set]; exact hl1, fun p a b => ?_⟩
  have ri := h.2 i h0 (by omega)
  have rj := h.2 j (by omega) (by omega)
  rw [if_neg (by omega)] at ri rj
  rw [h2, rdI_set (by omega) (by omega) a]
  by_cases e : p = j
  · subst e; rw [if_pos rfl, if_pos (by omega), ri]; congr 1; omega
  · rw [if_neg e, h1, rdI_set h0 (by omega) a]
    by_cases e2 : p = i
    · subst e2; rw [if_pos rfl, if_pos (by omega), rj]; congr 1; omega
    · rw [if_neg e2, h.2 p a b]
      by_cases e3 : p < i ∨ j < p
      · rw [if_pos e3, if_pos (by omega)]
      · rw [if_neg e3, if_neg (by omega)]
theorem rv_end {xs ys : List Int} {i j : Int} (h : Rv xs ys i j) (hij : i + j = (xs.length : Int) - 1) (hle : j ≤ i) (h9 : i ≤ j + 1) : ys = xs.reverse := by
  refine rd_ext (by rw [List.length_reverse]; exact h.1) (fun p a b => ?_)
  have hl := h.1
  rw [h.2 p a (by omega), rd_rev a (by omega)]
  split
  · rfl
  · congr 1; omega
/-- Where a list of arcs leads. -/
def wk (arcs : List (Int × Int)) : Int → List Int → Option Int
  | v, [] => some v
  | v, i :: is => if 0 ≤ i ∧ i < arcs.length ∧ (gx arcs i).1 = v then wk arcs (gx arcs i).2 is else none
theorem wk_step {arcs : List (Int × Int)} {v k : Int} {xs : List Int} (h0 : 0 ≤ k) (h1 : k < xs.length) (h : 0 ≤ rdI xs k ∧ rdI xs k < arcs.length ∧ (gx arcs (rdI xs k)).1 = v) : wk arcs v (xs.drop k.toNat) = wk arcs (gx arcs (rdI xs k)).2 (xs.drop (k + 1).toNat) := by
  rw [drop_at h0 h1, wk, if_pos h]
theorem wk_none {arcs : List (Int × Int)} {v k : Int} {xs : List Int} (h0 : 0 ≤ k) (h1 : k < xs.length) (h : ¬ (0 ≤ rdI xs k ∧ rdI xs k < arcs.length ∧ (gx arcs (rdI xs k)).1 = v)) : wk arcs v (xs.drop k.toNat) = none := by
  rw [drop_at h0 h1, wk, if_neg h]
theorem wk_end {arcs : List (Int × Int)} {v k : Int} {xs : List Int} (h1 : (xs.length : Int) ≤ k) : wk arcs v (xs.drop k.toNat) = some v := by
  rw [List.drop_eq_nil_of_le (by omega), wk]
theorem wk_app {arcs : List (Int × Int)} : ∀ (xs : List Int) (v i : Int), wk arcs v (xs ++ [i]) = (wk arcs v xs).bind (fun u => if 0 ≤ i ∧ i < arcs.length ∧ (gx arcs i).1 = u then some (gx arcs i).2 else none)
  | [], v, i => by simp only [List.nil_append, wk, Option.bind_some]
  | x :: xs, v, i => by
    rw [List.cons_append, wk, wk]
    split
    · exact wk_app xs _ i
    · rfl
/-- The short way, from its end. -/
def rl (arcs : List (Int × Int)) (bs : List Int) : Nat → Int → List Int
  | 0, _ => []
  | d + 1, t => rdI bs t :: rl arcs bs d (gx arcs (rdI bs t)).1
theorem rl_len (arcs : List (Int × Int)) (bs : List Int) : ∀ (d : Nat) (t : Int), (rl arcs bs d t).length = d
  | 0, _ => rfl
  | d + 1, t => by rw [rl, List.length_cons, rl_len arcs bs d]
theorem rl_step {arcs : List (Int × Int)} {ds bs os : List Int} {t : Int} (hp : 0 < rdI ds t) (hq : rdI ds (gx arcs (rdI bs t)).1 = rdI ds t - 1) : os ++ rl arcs bs (rdI ds t).toNat t = (os ++ [rdI bs t]) ++ rl arcs bs (rdI ds (gx arcs (rdI bs t)).1).toNat (gx arcs (rdI bs t)).1 := by
  rw [hq, show (rdI ds t).toNat = (rdI ds t - 1).toNat + 1 by omega, rl, List.append_assoc]; rfl
theorem rl_zero (arcs : List (Int × Int)) (bs : List Int) (t : Int) : rl arcs bs 0 t = [] := rfl
theorem rl_wk {N : Nat} {arcs : List (Int × Int)} {v : Int} {ds bs : List Int} (hF : Fine N arcs) (hD : DS N arcs v ds) (hK : BK N arcs ds bs) : ∀ (d : Nat) (t : Int), 0 ≤ t → t < N → rdI ds t = d → wk arcs v (rl arcs bs d t).reverse = some t
  | 0, t, h0, h1, e => by rw [rl, (hD.ze t h0 h1).1 (by omega)]; rfl
  | d + 1, t, h0, h1, e => by
    obtain ⟨p1, p2, p3, p4⟩ := hK.bk t h0 h1 (by omega)
    have hf := gx_fine hF p1 p2
    rw [rl, List.reverse_cons, wk_app, rl_wk hF hD hK d _ hf.1 hf.2.1 (by omega), Option.bind_some, if_pos ⟨p1, p2, rfl⟩, p3]
/-! how many short ways there are -/
def nst (arcs : List (Int × Int)) (ds : List Int) (f : Int → Int) (d : Int) (acc i : Int) : Int := if rdI ds (gx arcs i).1 = d then min (acc + f (gx arcs i).1) 1048576 else acc
def nwc (arcs : List (Int × Int)) (ds : List Int) : Nat → Int → Int
  | 0, _ => 1
  | d + 1, w => (idxs (keys true arcs) w).foldl (nst arcs ds (nwc arcs ds d) d) 0
theorem nst_ge {arcs : List (Int × Int)} {ds : List Int} {f : Int → Int} {d : Int} (hf : ∀ w, 0 ≤ f w) : ∀ (l : List Int) (acc : Int), 0 ≤ acc → acc ≤ 1048576 → 0 ≤ l.foldl (nst arcs ds f d) acc ∧ l.foldl (nst arcs ds f d) acc ≤ 1048576 ∧ acc ≤ l.foldl (nst arcs ds f d) acc
  | [], acc, h, h2 => ⟨h, h2, Int.le_refl _⟩
  | i :: l, acc, h, h2 => by
    have hk := hf (gx arcs i).1
    have h1 : acc ≤ nst arcs ds f d acc i ∧ nst arcs ds f d acc i ≤ 1048576 := by unfold nst; split <;> omega
    have := nst_ge (arcs := arcs) (ds := ds) (d := d) hf l (nst arcs ds f d acc i) (by omega) h1.2
    rw [List.foldl_cons]
    omega
theorem nwc_range (arcs : List (Int × Int)) (ds : List Int) : ∀ (d : Nat) (w : Int), 0 ≤ nwc arcs ds d w ∧ nwc arcs ds d w ≤ 1048576
  | 0, w => by rw [nwc]; omega
  | d + 1, w => by
    have := nst_ge (arcs := arcs) (ds := ds) (d := (d : Int)) (fun w => (nwc_range arcs ds d w).1) (idxs (keys true arcs) w) 0 (by omega) (by omega)
    rw [nwc]; exact ⟨this.1, this.2.1⟩
theorem mem_idxsT {arcs : List (Int × Int)} {u i : Int} : i ∈ idxs (keys true arcs) u ↔ 0 ≤ i ∧ i < arcs.length ∧ (gx arcs i).2 = u := by
  constructor
  · intro h
    obtain ⟨h0, h1, h2⟩ := idxs_mem h
    rw [keys_len] at h1
    rw [keys_get h0 h1] at h2
    refine ⟨h0, h1, ?_⟩
    have := Option.some.inj h2; unfold key at this; simpa using this
  · rintro ⟨h0, h1, h2⟩
    have hk := keys_get (b := true) (arcs := arcs) h0 h1
    unfold idxs
    simp only [List.mem_map, List.mem_filter, List.mem_range]
    refine ⟨i.toNat, ⟨by rw [keys_len]; omega, ?_⟩, by omega⟩
    rw [List.getD_eq_getElem?_getD, hk]
    unfold key; simpa using h2
/-! the rounds of Count -/
def cwO (N : Nat) (arcs : List (Int × Int)) (ds us : List Int) (d : Int) : Prop := us.length = N ∧ ∀ w : Int, 0 ≤ w → w < N → rdI us w = if 0 ≤ rdI ds w ∧ rdI ds w < d then nwc arcs ds (rdI ds w).toNat w else 0
def cwL (N : Nat) (arcs : List (Int × Int)) (ds us L : List Int) (d k : Int) : Prop := us.length = N ∧ ∀ w : Int, 0 ≤ w → w < N → rdI us w = if 0 ≤ rdI ds w ∧ rdI ds w < d then nwc arcs ds (rdI ds w).toNat w else if w ∈ L.take k.toNat then nwc arcs ds d.toNat w else 0
def cwQ (N : Nat) (arcs : List (Int × Int)) (ds us L : List Int) (d k u q : Int) : Prop := us.length = N ∧ ∀ w : Int, 0 ≤ w → w < N → rdI us w = if 0 ≤ rdI ds w ∧ rdI ds w < d then nwc arcs ds (rdI ds w).toNat w else if w ∈ L.take k.toNat then nwc arcs ds d.toNat w else if w = u then ((idxs (keys true arcs) u).take q.toNat).foldl (nst arcs ds (nwc arcs ds (d - 1).toNat) (d - 1)) 0 else 0
structure LayP (N : Nat) (ds L : List Int) (d : Int) : Prop where
  of : ∀ x ∈ L, 0 ≤ x ∧ x < N ∧ rdI ds x = d
  nd : L.Nodup
  all : ∀ w : Int, 0 ≤ w → w < N → rdI ds w = d → w ∈ L
theorem cw_start {N : Nat} {arcs : List (Int × Int)} {v : Int} {ds us : List Int} (hD : DS N arcs v ds) (h0 : 0 ≤ v) (h1 : v < N) (hu : us = (List.replicate N 0).set v.toNat 1) : cwO N arcs ds us 1 := by
  have hl : (List.replicate N (0 : Int)).length = N := List.length_replicate
  refine ⟨by rw [hu, List.length_set]; exact hl, fun w a b => ?_⟩
  rw [hu, rdI_set h0 (by omega) a]
  have hz := hD.ze w a b
  by_cases e : w = v
  · have := hz.2 e
    rw [if_pos e, if_pos (by omega), this]; rfl
  · rw [if_neg e, rdI_rep a b, if_neg]
    intro h; exact e (hz.1 (by omega))
theorem cw_in {N : Nat} {arcs : List (Int × Int)} {ds us L : List Int} {d : Int} (h : cwO N arcs ds us d) : cwL N arcs ds us L d 0 := ⟨h.1, fun w a b => by
  rw [h.2 w a b]; split
  · rfl
  · rw [if_neg (by simp)]⟩
theorem cw_q0 {N : Nat} {arcs : List (Int × Int)} {ds us L : List Int} {d k : Int} (h : cwL N arcs ds us L d k) (u : Int) : cwQ N arcs ds us L d k u 0 := ⟨h.1, fun w a b => by
  rw [h.2 w a b]; split
  · rfl
  · split
    · rfl
    · simp⟩
theorem qt_step {arcs : List (Int × Int)} {u q : Int} {f : Int → Int → Int} (q0 : 0 ≤ q) (q1 : q < (idxs (keys true arcs) u).length) : ((idxs (keys true arcs) u).take (q + 1).toNat).foldl f 0 = f (((idxs (keys true arcs) u).take q.toNat).foldl f 0) (rdI (idxs (keys true arcs) u) q) := by
  rw [take_rd q0 q1, List.foldl_append]; rfl
theorem cw_u {N : Nat} {arcs : List (Int × Int)} {ds us L : List Int} {d k q : Int} (h : cwQ N arcs ds us L d k (rdI L k) q) (hL : LayP N ds L d) (k0 : 0 ≤ k) (k1 : k < L.length) : rdI us (rdI L k) = ((idxs (keys true arcs) (rdI L k)).take q.toNat).foldl (nst arcs ds (nwc arcs ds (d - 1).toNat) (d - 1)) 0 := by
  have hu := hL.of _ (rdI_in k0 k1)
  rw [h.2 _ hu.1 hu.2.1, if_neg (by omega), if_neg (nd_take hL.nd k0 k1), if_pos rfl]
theorem cw_range {N : Nat} {arcs : List (Int × Int)} {ds us L : List Int} {d k q : Int} (h : cwQ N arcs ds us L d k (rdI L k) q) (hL : LayP N ds L d) (k0 : 0 ≤ k) (k1 : k < L.length) : 0 ≤ rdI us (rdI L k) ∧ rdI us (rdI L k) ≤ 1048576 := by
  rw [cw_u h hL k0 k1]
  have := nst_ge (arcs := arcs) (ds := ds) (d := d - 1) (fun w => (nwc_range arcs ds (d - 1).toNat w).1) ((idxs (keys true arcs) (rdI L k)).take q.toNat) 0 (by omega) (by omega)
  exact ⟨this.1, this.2.1⟩
theorem cw_from {N : Nat} {arcs : List (Int × Int)} {ds us L : List Int} {d k u q w : Int} (h : cwQ N arcs ds us L d k u q) (a : 0 ≤ w) (b : w < N) (hd : 1 ≤ d) (e : rdI ds w = d - 1) : rdI us w = nwc arcs ds (d - 1).toNat w := by
  rw [h.2 w a b, if_pos (by omega), e]
theorem cw_eq {N : Nat} {arcs : List (Int × Int)} {ds us us' L : List Int} {d k q : Int} (hF : Fine N arcs) (h : cwQ N arcs ds us L d k (rdI L k) q) (hL : LayP N ds L d) (k0 : 0 ≤ k) (k1 : k < L.length) (hd : 1 ≤ d) (q0 : 0 ≤ q) (q1 : q < (idxs (keys true arcs) (rdI L k)).length)
    (he : rdI ds (gx arcs (rdI (idxs (keys true arcs) (rdI L k)) q)).1 = d - 1) (hu : us' = us.set (rdI L k).toNat (min (rdI us (rdI L k) + rdI us (gx arcs (rdI (idxs (keys true arcs) (rdI L k)) q)).1) 1048576)) : cwQ N arcs ds us' L d k (rdI L k) (q + 1) := by
  have hx := hL.of _ (rdI_in k0 k1)
  have hl := h.1
  have hi := mem_idxsT.1 (rdI_in q0 q1)
  have hf := gx_fine hF hi.1 hi.2.1
  refine ⟨by rw [hu, List.length_set]; exact hl, fun w a b => ?_⟩
  rw [hu, rdI_set hx.1 (by omega) a]
  by_cases e : w = rdI L k
  · subst e
    rw [if_pos rfl, if_neg (by omega), if_neg (nd_take hL.nd k0 k1), if_pos rfl, qt_step q0 q1, cw_u h hL k0 k1, cw_from h hf.1 hf.2.1 hd he]
    unfold nst; rw [if_pos he]
  · rw [if_neg e, h.2 w a b, if_neg e, if_neg e]
theorem cw_ne {N : Nat} {arcs : List (Int × Int)} {ds us L : List Int} {d k u q : Int} (h : cwQ N arcs ds us L d k u q) (q0 : 0 ≤ q) (q1 : q < (idxs (keys true arcs) u).length) (he : ¬ rdI ds (gx arcs (rdI (idxs (keys true arcs) u) q)).1 = d - 1) : cwQ N arcs ds us L d k u (q + 1) :=
  ⟨h.1, fun w a b => by
    rw [h.2 w a b, qt_step q0 q1]
    unfold nst; rw [if_neg he]⟩
theorem cw_qend {N : Nat} {arcs : List (Int × Int)} {ds us L : List Int} {d k q : Int} (h : cwQ N arcs ds us L d k (rdI L k) q) (k0 : 0 ≤ k) (k1 : k < L.length) (hd : 1 ≤ d) (hq : ((idxs (keys true arcs) (rdI L k)).length : Int) ≤ q) : cwL N arcs ds us L d (k + 1) :=
  ⟨h.1, fun w a b => by
    rw [h.2 w a b, show (idxs (keys true arcs) (rdI L k)).take q.toNat = idxs (keys true arcs) (rdI L k) from List.take_of_length_le (by omega), take_rd k0 k1]
    split
    · rfl
    · by_cases h2 : w ∈ L.take k.toNat
      · rw [if_pos h2, if_pos (List.mem_append_left _ h2)]
      · rw [if_neg h2]
        by_cases e : w = rdI L k
        · subst e
          rw [if_pos rfl, if_pos (List.mem_append_right _ (List.mem_singleton_self _)), show d.toNat = (d - 1).toNat + 1 by omega, nwc, show (((d - 1).toNat : Nat) : Int) = d - 1 by omega]
        · rw [if_neg e, if_neg]
          intro h9
          rcases List.mem_append.1 h9 with h8 | h8
          · exact h2 h8
          · rw [List.mem_singleton] at h8; exact e h8⟩
theorem cw_lend {N : Nat} {arcs : List (Int × Int)} {ds us L : List Int} {d k : Int} (h : cwL N arcs ds us L d k) (hL : LayP N ds L d) (hd : 1 ≤ d) (hk : (L.length : Int) ≤ k) : cwO N arcs ds us (d + 1) :=
  ⟨h.1, fun w a b => by
    rw [h.2 w a b, List.take_of_length_le (by omega)]
    by_cases h1 : 0 ≤ rdI ds w ∧ rdI ds w < d
    · rw [if_pos h1, if_pos (by omega)]
    · rw [if_neg h1]
      by_cases h2 : w ∈ L
      · have := (hL.of w h2).2.2
        rw [if_pos h2, if_pos (by omega), this]
      · rw [if_neg h2, if_neg]
        intro h9; exact h2 (hL.all w a b (by omega))⟩
theorem cw_done {N : Nat} {arcs : List (Int × Int)} {ds us : List Int} {d t : Int} (h : cwO N arcs ds us d) (a : 0 ≤ t) (b : t < N) (h0 : 0 ≤ rdI ds t) (hd : rdI ds t < d) : rdI us t = nwc arcs ds (rdI ds t).toNat t := by
  rw [h.2 t a b, if_pos ⟨h0, hd⟩]
theorem bk_eq {N : Nat} {arcs : List (Int × Int)} {v : Int} {ds bs cs : List Int} (hD : DS N arcs v ds) (h : BK N arcs ds bs) (k : BK N arcs ds cs) : bs = cs := by
  refine rd_ext (h.lb.trans k.lb.symm) (fun w a b => ?_)
  have hl := h.lb
  have b' : w < N := by omega
  by_cases hp : 0 < rdI ds w
  · have h1 := h.bk w a b' hp
    have k1 := k.bk w a b' hp
    have h2 := h.le _ k1.1 k1.2.1 (by omega) (by rw [k1.2.2.1]; omega)
    have k2 := k.le _ h1.1 h1.2.1 (by omega) (by rw [h1.2.2.1]; omega)
    rw [k1.2.2.1] at h2
    rw [h1.2.2.1] at k2
    omega
  · rw [h.no w a b' (by omega), k.no w a b' (by omega)]
/-! all walks, the least, how many -/
def en (arcs : List (Int × Int)) (v : Int) (w : List Int) : Int := if w.length = 0 then v else (gx arcs (rdI w ((w.length : Int) - 1))).2
def lg1 (arcs : List (Int × Int)) (v : Int) (w : List Int) : List (List Int) := (idxs (keys false arcs) (en arcs v w)).map (fun k => w ++ [k])
def lgr (arcs : List (Int × Int)) (v : Int) (ws : List (List Int)) : List (List Int) := ws.flatMap (lg1 arcs v)
def WL (arcs : List (Int × Int)) (v : Int) : Nat → List (List Int)
  | 0 => [[]]
  | k + 1 => lgr arcs v (WL arcs v k)
theorem rd_last (w : List Int) (k : Int) : rdI (w ++ [k]) (((w ++ [k]).length : Int) - 1) = k := by
  have e : (((w ++ [k]).length : Int) - 1).toNat = w.length := by rw [List.length_append, List.length_singleton]; omega
  unfold rdI
  rw [e, List.getD_eq_getElem?_getD, List.getElem?_append_right (Nat.le_refl _), Nat.sub_self]; rfl
theorem en_snoc (arcs : List (Int × Int)) (v : Int) (w : List Int) (k : Int) : en arcs v (w ++ [k]) = (gx arcs k).2 := by
  unfold en; rw [if_neg (by rw [List.length_append, List.length_singleton]; omega), rd_last]
theorem wl_sound {arcs : List (Int × Int)} {v : Int} : ∀ (k : Nat) (w : List Int), w ∈ WL arcs v k → w.length = k ∧ wk arcs v w = some (en arcs v w) ∧ ∀ x ∈ w, 0 ≤ x ∧ x < arcs.length
  | 0, w, h => by
    rw [WL, List.mem_singleton] at h; subst h; exact ⟨rfl, rfl, fun x hx => nomatch hx⟩
  | k + 1, w, h => by
    rw [WL, lgr, List.mem_flatMap] at h
    obtain ⟨u, hu, hw⟩ := h
    unfold lg1 at hw
    obtain ⟨i, hi, rfl⟩ := List.mem_map.1 hw
    obtain ⟨h1, h2, h3⟩ := wl_sound k u hu
    have hm := mem_idxs.1 hi
    refine ⟨by rw [List.length_append, h1]; rfl, ?_, fun x hx => ?_⟩
    · rw [wk_app, h2, Option.bind_some, if_pos hm, en_snoc]
    · rcases List.mem_append.1 hx with h9 | h9
      · exact h3 x h9
      · rw [List.mem_singleton] at h9; rw [h9]; exact ⟨hm.1, hm.2.1⟩
theorem snoc_cases (w : List Int) : w = [] ∨ ∃ u i, w = u ++ [i] := by
  rcases List.eq_nil_or_concat w with h | ⟨u, i, h⟩
  · exact .inl h
  · exact .inr ⟨u, i, by rw [h, List.concat_eq_append]⟩
theorem wk_en {arcs : List (Int × Int)} {v t : Int} {w : List Int} (h : wk arcs v w = some t) : en arcs v w = t := by
  rcases snoc_cases w with rfl | ⟨u, i, rfl⟩
  · rw [wk] at h; unfold en; rw [if_pos (show ([] : List Int).length = 0 from rfl)]; exact Option.some.inj h
  · rw [wk_app] at h
    rw [en_snoc]
    cases hu : wk arcs v u with
    | none => rw [hu] at h; cases h
    | some x =>
      rw [hu, Option.bind_some] at h
      split at h
      · exact Option.some.inj h
      · cases h
theorem wk_snoc {arcs : List (Int × Int)} {v t i : Int} {u : List Int} (h : wk arcs v (u ++ [i]) = some t) : wk arcs v u = some (gx arcs i).1 ∧ 0 ≤ i ∧ i < arcs.length ∧ (gx arcs i).2 = t := by
  rw [wk_app] at h
  cases hu : wk arcs v u with
  | none => rw [hu] at h; cases h
  | some x =>
    rw [hu, Option.bind_some] at h
    split at h
    · rename_i hc; exact ⟨by rw [hc.2.2], hc.1, hc.2.1, Option.some.inj h⟩
    · cases h
theorem wl_all {arcs : List (Int × Int)} {v : Int} : ∀ (k : Nat) (w : List Int) (t : Int), w.length = k → wk arcs v w = some t → w ∈ WL arcs v k
  | 0, w, t, hl, _ => by rw [List.eq_nil_of_length_eq_zero hl, WL]; exact List.mem_singleton_self _
  | k + 1, w, t, hl, h => by
    rcases snoc_cases w with rfl | ⟨u, i, rfl⟩
    · cases hl
    · obtain ⟨h1, h2, h3, h4⟩ := wk_snoc h
      have hlu : u.length = k := by rw [List.length_append, List.length_singleton] at hl; omega
      have hu := wl_all k u _ hlu h1
      rw [WL, lgr, List.mem_flatMap]
      refine ⟨u, hu, ?_⟩
      unfold lg1
      exact List.mem_map.2 ⟨i, mem_idxs.2 ⟨h2, h3, (wk_en h1).symm⟩, rfl⟩
theorem wk_way {arcs : List (Int × Int)} : ∀ (w : List Int) (v t : Int), wk arcs v w = some t → Way arcs v w.length t
  | [], v, t, h => by rw [wk] at h; rw [← Option.some.inj h]; exact .zero
  | i :: w, v, t, h => by
    rw [wk] at h
    split at h
    · rename_i hc
      have hm := gx_mem hc.1 hc.2.1
      rw [hc.2.2] at hm
      exact way_head hm (wk_way w _ _ h)
    · cases h
theorem wl_len {arcs : List (Int × Int)} {v : Int} (hm : arcs.length ≤ 10) : ∀ k : Nat, (WL arcs v k).length ≤ 10 ^ k
  | 0 => Nat.le_refl _
  | k + 1 => by
    have h := wl_len (v := v) hm k
    have key : ∀ ws : List (List Int), (lgr arcs v ws).length ≤ ws.length * 10 := fun ws => by
      induction ws with
      | nil => exact Nat.le_refl _
      | cons w ws ih =>
        unfold lgr at ih ⊢
        rw [List.flatMap_cons, List.length_append, List.length_cons]
        have : (lg1 arcs v w).length ≤ 10 := by
          unfold lg1; rw [List.length_map]; have := idxs_le false arcs (en arcs v w); omega
        omega
    rw [WL, Nat.pow_succ]
    exact Nat.le_trans (key _) (Nat.mul_le_mul_right _ h)
/-! the least -/
theorem lx_anti : ∀ xs ys : List Int, lx xs ys = - lx ys xs
  | [], [] => rfl
  | [], _ :: _ => rfl
  | _ :: _, [] => rfl
  | x :: xs, y :: ys => by
    rw [lx, lx]
    by_cases h1 : x < y
    · rw [if_pos h1, if_neg (by omega), if_pos h1]
    · by_cases h2 : y < x
      · rw [if_neg h1, if_pos h2, if_pos h2]; rfl
      · rw [if_neg h1, if_neg h2, if_neg h2, if_neg h1]; exact lx_anti xs ys
theorem rl_least {N : Nat} {arcs : List (Int × Int)} {v : Int} {ds bs : List Int} (hF : Fine N arcs) (hD : DS N arcs v ds) (hK : BK N arcs ds bs) (v0 : 0 ≤ v) (v1 : v < N) : ∀ (d : Nat) (t : Int), 0 ≤ t → t < N → rdI ds t = d → ∀ w, wk arcs v w = some t → w.length = d → w.reverse = rl arcs bs d t ∨ lx (rl arcs bs d t) w.reverse < 0
  | 0, t, _, _, _, w, _, hl => by rw [List.eq_nil_of_length_eq_zero hl]; exact .inl rfl
  | d + 1, t, t0, t1, e, w, h, hl => by
    rcases snoc_cases w with rfl | ⟨u, i, rfl⟩
    · cases hl
    · obtain ⟨h1, h2, h3, h4⟩ := wk_snoc h
      have hlu : u.length = d := by rw [List.length_append, List.length_singleton] at hl; omega
      have hw := of_way hF hD v0 v1 (wk_way u v _ h1)
      rw [hlu] at hw
      have har := hD.ar i h2 h3 hw.2.2.1
      rw [h4, e] at har
      have hle := hK.le i h2 h3 hw.2.2.1 (by rw [h4]; omega)
      rw [h4] at hle
      rw [List.reverse_append, List.reverse_singleton, List.singleton_append, rl]
      by_cases hb : rdI bs t = i
      · rw [hb]
        have ih := rl_least hF hD hK v0 v1 d _ hw.1 hw.2.1 (by omega) u h1 hlu
        rcases ih with ih | ih
        · rw [ih]; exact .inl rfl
        · refine .inr ?_
          rw [lx, if_neg (by omega), if_neg (by omega)]; exact ih
      · refine .inr ?_
        rw [lx, if_pos (by omega)]; omega
/-! how many -/
def cN (arcs : List (Int × Int)) (v : Int) (k : Nat) (t : Int) : Nat := (WL arcs v k).countP (fun w => decide (en arcs v w = t))
def sumN {α : Type} (f : α → Nat) : List α → Nat
  | [] => 0
  | x :: xs => f x + sumN f xs
theorem sumN_add {α : Type} (f g : α → Nat) : ∀ l : List α, sumN (fun x => f x + g x) l = sumN f l + sumN g l
  | [] => rfl
  | x :: l => by rw [sumN, sumN, sumN, sumN_add f g l]; omega
theorem sumN_zero {α : Type} : ∀ l : List α, sumN (fun _ => 0) l = 0
  | [] => rfl
  | x :: l => by rw [sumN, sumN_zero l]
theorem sumN_congr {α : Type} {f g : α → Nat} : ∀ {l : List α}, (∀ x ∈ l, f x = g x) → sumN f l = sumN g l
  | [], _ => rfl
  | x :: l, h => by rw [sumN, sumN, h x (List.mem_cons_self ..), sumN_congr (fun y hy => h y (List.mem_cons_of_mem _ hy))]
theorem countP_sum {α : Type} (p : α → Bool) : ∀ l : List α, l.countP p = sumN (fun x => if p x = true then 1 else 0) l
  | [] => rfl
  | x :: l => by rw [List.countP_cons, countP_sum p l, sumN]; split <;> omega
theorem sum_swap {α β : Type} (p : α → β → Bool) (l : List α) (m : List β) : sumN (fun a => m.countP (p a)) l = sumN (fun b => l.countP (fun a => p a b)) m := by
  induction l with
  | nil => rw [sumN]; exact (sumN_zero m).symm
  | cons a l ih =>
    rw [sumN, ih, countP_sum (p a) m, ← sumN_add]
    apply sumN_congr
    intro b _
    rw [List.countP_cons]; split <;> omega
theorem countP_flat {α β : Type} (f : α → List β) (p : β → Bool) : ∀ l : List α, (l.flatMap f).countP p = sumN (fun a => (f a).countP p) l
  | [] => rfl
  | x :: l => by rw [List.flatMap_cons, List.countP_append, countP_flat f p l, sumN]
theorem idxs_both (arcs : List (Int × Int)) (u t : Int) : (idxs (keys false arcs) u).countP (fun i => decide ((gx arcs i).2 = t)) = (idxs (keys true arcs) t).countP (fun i => decide ((gx arcs i).1 = u)) := by
  have hkk : ∀ (b : Bool) (x : Int) (p : Int → Bool), (idxs (keys b arcs) x).countP p = (List.range arcs.length).countP (fun j : Nat => decide (key b (gx arcs (j : Int)) = x) && p (j : Int)) := fun b x p => by
    unfold idxs
    rw [keys_len, List.countP_map, List.countP_filter]
    apply List.countP_congr
    intro j hj
    have hj2 : j < arcs.length := by simpa using hj
    have hk := keys_get (b := b) (arcs := arcs) (i := (j : Int)) (by omega) (by omega)
    rw [Int.toNat_natCast] at hk
    rw [List.getD_eq_getElem?_getD, hk]
    simp only [Function.comp, Option.getD_some, Bool.and_eq_true, decide_eq_true_eq]
    exact ⟨fun h => ⟨h.2, h.1⟩, fun h => ⟨h.2, h.1⟩⟩
  rw [hkk, hkk]
  apply List.countP_congr
  intro j _
  unfold key
  simp only [Bool.and_eq_true, decide_eq_true_eq, if_true, Bool.false_eq_true, if_false]
  exact ⟨fun h => ⟨h.2, h.1⟩, fun h => ⟨h.2, h.1⟩⟩
theorem cN_step (arcs : List (Int × Int)) (v : Int) (k : Nat) (t : Int) : cN arcs v (k + 1) t = sumN (fun i => cN arcs v k (gx arcs i).1) (idxs (keys true arcs) t) := by
  unfold cN
  rw [WL, lgr, countP_flat]
  have h1 : sumN (fun w => (lg1 arcs v w).countP (fun w => decide (en arcs v w = t))) (WL arcs v k) = sumN (fun w => (idxs (keys true arcs) t).countP (fun i => decide ((gx arcs i).1 = en arcs v w))) (WL arcs v k) := by
    apply sumN_congr
    intro w _
    unfold lg1
    rw [List.countP_map, ← idxs_both]
    apply List.countP_congr
    intro i _
    simp only [Function.comp, en_snoc]
  rw [h1, sum_swap]
  apply sumN_congr
  intro i _
  apply List.countP_congr
  intro w _
  simp only [decide_eq_true_eq]
  exact ⟨Eq.symm, Eq.symm⟩
theorem cN_le (arcs : List (Int × Int)) (v : Int) (k : Nat) (t : Int) : cN arcs v k t ≤ (WL arcs v k).length := List.countP_le_length
theorem nst_sum {arcs : List (Int × Int)} {ds : List Int} {f : Int → Int} {g : Int → Nat} {d : Int} : ∀ (l : List Int) (acc : Int), 0 ≤ acc → acc + sumN (fun i => g (gx arcs i).1) l ≤ 1048576 → (∀ i ∈ l, (rdI ds (gx arcs i).1 = d → f (gx arcs i).1 = g (gx arcs i).1) ∧ (rdI ds (gx arcs i).1 ≠ d → g (gx arcs i).1 = 0)) → l.foldl (nst arcs ds f d) acc = acc + sumN (fun i => g (gx arcs i).1) l
  | [], acc, _, _, _ => by rw [sumN]; simp
  | i :: l, acc, h0, hb, h => by
    rw [sumN] at hb
    have hi := h i (List.mem_cons_self ..)
    have h1 : nst arcs ds f d acc i = acc + g (gx arcs i).1 := by
      unfold nst
      by_cases e : rdI ds (gx arcs i).1 = d
      · rw [if_pos e, hi.1 e]; omega
      · rw [if_neg e, hi.2 e]; omega
    rw [List.foldl_cons, h1, nst_sum l _ (by omega) (by omega) (fun j hj => h j (List.mem_cons_of_mem _ hj)), sumN]
    omega
theorem nwc_count {N : Nat} {arcs : List (Int × Int)} {v : Int} {ds : List Int} (hF : Fine N arcs) (hD : DS N arcs v ds) (v0 : 0 ≤ v) (v1 : v < N) (hm : arcs.length ≤ 10) : ∀ (d : Nat) (t : Int), d ≤ 6 → 0 ≤ t → t < N → rdI ds t = d → nwc arcs ds d t = cN arcs v d t
  | 0, t, _, t0, t1, e => by
    have := (hD.ze t t0 t1).1 (by omega)
    subst this
    rw [nwc]; unfold cN; rw [WL, List.countP_cons, List.countP_nil]; unfold en; simp
  | d + 1, t, h6, t0, t1, e => by
    have hle : cN arcs v (d + 1) t ≤ 1000000 := by
      have h1 := cN_le arcs v (d + 1) t
      have h2 := wl_len (v := v) hm (d + 1)
      have h3 : 10 ^ (d + 1) ≤ 10 ^ 6 := Nat.pow_le_pow_right (by omega) h6
      omega
    rw [cN_step] at hle
    rw [nwc, cN_step, nst_sum (g := cN arcs v d) _ 0 (by omega) (by omega)]
    · omega
    · intro i hi
      have hti := mem_idxsT.1 hi
      have hfi := gx_fine hF hti.1 hti.2.1
      refine ⟨fun e2 => nwc_count hF hD v0 v1 hm d _ (by omega) hfi.1 hfi.2.1 e2, fun e2 => ?_⟩
      unfold cN
      rw [List.countP_eq_zero]
      intro w hw
      rw [decide_eq_true_eq]
      intro h9
      obtain ⟨s1, s2, _⟩ := wl_sound d w hw
      have h8 := of_way hF hD v0 v1 (wk_way w v _ s2)
      rw [h9, s1] at h8
      have := hD.ar i hti.1 hti.2.1 h8.2.2.1
      rw [hti.2.2, e] at this
      omega
/-- What the document finds: of the walks with k arcs those that lead there. -/
def ft (arcs : List (Int × Int)) (v t : Int) (ws : List (List Int)) : List (List Int) := ws.filter (fun w => decide (wk arcs v w = some t))
theorem ft_none {N : Nat} {arcs : List (Int × Int)} {v t : Int} {ds : List Int} {k : Nat} (hF : Fine N arcs) (hD : DS N arcs v ds) (v0 : 0 ≤ v) (v1 : v < N) (hk : (k : Int) < rdI ds t) : ft arcs v t (WL arcs v k) = [] := by
  unfold ft
  rw [List.filter_eq_nil_iff]
  intro w hw
  rw [decide_eq_true_eq]
  intro h
  obtain ⟨s1, s2, _⟩ := wl_sound k w hw
  have h8 := of_way hF hD v0 v1 (wk_way w v t h)
  omega
theorem ft_len {arcs : List (Int × Int)} {v t : Int} {k : Nat} : (ft arcs v t (WL arcs v k)).length = cN arcs v k t := by
  unfold ft cN
  rw [← List.countP_eq_length_filter]
  apply List.countP_congr
  intro w hw
  obtain ⟨s1, s2, _⟩ := wl_sound k w hw
  rw [decide_eq_true_eq, decide_eq_true_eq, s2]
  exact ⟨fun h => Option.some.inj h, fun h => by rw [h]⟩
theorem ft_has {N : Nat} {arcs : List (Int × Int)} {v t : Int} {ds bs : List Int} (hF : Fine N arcs) (hD : DS N arcs v ds) (hK : BK N arcs ds bs) (t0 : 0 ≤ t) (t1 : t < N) (hp : 0 ≤ rdI ds t) : (rl arcs bs (rdI ds t).toNat t).reverse ∈ ft arcs v t (WL arcs v (rdI ds t).toNat) := by
  have h := rl_wk hF hD hK (rdI ds t).toNat t t0 t1 (by omega)
  unfold ft
  refine List.mem_filter.2 ⟨wl_all _ _ t ?_ h, by rw [decide_eq_true_eq]; exact h⟩
  rw [List.length_reverse, rl_len]
theorem ft_least {N : Nat} {arcs : List (Int × Int)} {v t : Int} {ds bs : List Int} (hF : Fine N arcs) (hD : DS N arcs v ds) (hK : BK N arcs ds bs) (v0 : 0 ≤ v) (v1 : v < N) (t0 : 0 ≤ t) (t1 : t < N) (hp : 0 ≤ rdI ds t) {w : List Int} (hw : w ∈ ft arcs v t (WL arcs v (rdI ds t).toNat)) : w = (rl arcs bs (rdI ds t).toNat t).reverse ∨ lx (rl arcs bs (rdI ds t).toNat t).reverse.reverse w.reverse < 0 := by
  unfold ft at hw
  obtain ⟨h1, h2⟩ := List.mem_filter.1 hw
  rw [decide_eq_true_eq] at h2
  obtain ⟨s1, s2, _⟩ := wl_sound _ w h1
  rcases rl_least hF hD hK v0 v1 (rdI ds t).toNat t t0 t1 (by omega) w h2 s1 with h | h
  · exact .inl (by rw [← h, List.reverse_reverse])
  · exact .inr (by rw [List.reverse_reverse]; exact h)
/-! ### rows of slices, and the rows that they lead to -/
abbrev Pp := (Option Addr × Nat) × List Int
def cp (ps : List Pp) : List Value := ps.map fun p => .slice p.1.1 p.2.length p.1.2
theorem cp_len (xs : List Pp) : (cp xs).length = xs.length := by simp [cp]
theorem cp_one {xs : List Pp} : ∀ u ∈ cp xs, u.oneCell' = true := by
  intro u hu; simp only [cp, List.mem_map] at hu; obtain ⟨x, _, rfl⟩ := hu; rfl
theorem cp_at {xs : List Pp} {i : Int} {A : Option Addr} {c : Nat} {l : List Int} (h0 : 0 ≤ i) (h1 : i < xs.length) (h : gx xs i = ((A, c), l)) : (cp xs)[i.toNat]? = some (.slice A l.length c) := by
  unfold cp; rw [List.getElem?_map, gx_eq h0 h1, h]; rfl
theorem cp_app (xs ys : List Pp) : cp (xs ++ ys) = cp xs ++ cp ys := by simp [cp]
def pl (qs : List Pp) : Ent := ⟨fun k => ∃ q ∈ qs, ∃ ad, q.1.1 = some ad ∧ ad.block = k, fun W => ∀ q ∈ qs, Rd W q.1.1 (ci .i64 q.2), fun W W' h hp q hq j v hv => by
    obtain ⟨ad, e, hc⟩ := hp q hq j v hv
    have hb : (ad.add j).block = ad.block := by unfold Addr.add; split <;> rfl
    exact ⟨ad, e, (World.cell?_of_block (by rw [hb]; exact h _ ⟨q, hq, ad, e, rfl⟩)).trans hc⟩⟩
theorem St.two {W0 W : World} {M : Nat → Prop} {L : List Ent} {e f g : Ent} (HS : St W0 M W (e :: f :: L)) (hP : e.P W → f.P W → g.P W) (ho : ∀ k, g.own k → e.own k ∨ f.own k) : St W0 M W (g :: L) := by
  have he := HS.has e (List.mem_cons_self ..)
  have hf := HS.has f (List.mem_cons_of_mem _ (List.mem_cons_self ..))
  have hne := List.pairwise_cons.1 HS.ne
  have hne2 := List.pairwise_cons.1 hne.2
  refine ⟨HS.kept, fun x hx => ?_, List.pairwise_cons.2 ⟨fun x hx k hk hxk => ?_, hne2.2⟩⟩
  · rcases List.mem_cons.1 hx with rfl | hx
    · exact ⟨hP he.1 hf.1, fun k hk => (ho k hk).elim (he.2 k) (hf.2 k)⟩
    · exact HS.has x (List.mem_cons_of_mem _ (List.mem_cons_of_mem _ hx))
  · rcases ho k hk with h | h
    · exact hne.1 x (List.mem_cons_of_mem _ hx) k h hxk
    · exact hne2.1 x hx k h hxk
theorem St.pool {W0 W : World} {M : Nat → Prop} {L : List Ent} {A : Option Addr} {n c t z : Nat} {xs : List Int} {qs : List Pp} (HS : St W0 M W (row A n c (ci .i64 xs) t z :: pl qs :: L)) : St W0 M W (pl (((A, c), xs) :: qs) :: L) :=
  HS.two (fun _ hf q hq => by
    rcases List.mem_cons.1 hq with rfl | hq
    · exact Rd.row HS (i := 0) rfl
    · exact hf q hq) (fun k ⟨q, hq, ad, e, hk⟩ => by
    rcases List.mem_cons.1 hq with rfl | hq
    · refine .inl ?_
      rcases (HS.rowE (i := 0) rfl).2 with ⟨h, _⟩ | ⟨g, cap, cur, h, _⟩
      · cases h; cases e
      · cases h; cases e; exact congrArg some hk
    · exact .inr ⟨q, hq, ad, e, hk⟩)
theorem St.noPool {W0 W : World} {M : Nat → Prop} {L : List Ent} (HS : St W0 M W L) : St W0 M W (pl [] :: L) :=
  HS.new (.refl _ _) (fun q hq => nomatch hq) (fun k ⟨q, hq, _⟩ => nomatch hq)
theorem gx_in {α : Type} [Inhabited α] {xs : List α} {i : Int} (h0 : 0 ≤ i) (h1 : i < xs.length) : gx xs i ∈ xs := List.mem_of_getElem? (gx_eq h0 h1)
theorem gx_take {α : Type} [Inhabited α] {xs : List α} {i : Int} (h0 : 0 ≤ i) (h1 : i < xs.length) : xs.take (i + 1).toNat = xs.take i.toNat ++ [gx xs i] := by
  have h : i.toNat < xs.length := by omega
  rw [show (i + 1).toNat = i.toNat + 1 by omega, List.take_succ_eq_append_getElem h]
  congr 2
  have := gx_eq h0 h1; rw [List.getElem?_eq_getElem h] at this; exact Option.some.inj this
theorem lgr_step {arcs : List (Int × Int)} {v i : Int} {ps : List Pp} (h0 : 0 ≤ i) (h1 : i < ps.length) : lgr arcs v ((ps.take (i + 1).toNat).map (·.2)) = lgr arcs v ((ps.take i.toNat).map (·.2)) ++ lg1 arcs v (gx ps i).2 := by
  rw [gx_take h0 h1, List.map_append]
  unfold lgr
  rw [List.flatMap_append]
  simp
theorem lg1_step {arcs : List (Int × Int)} {k : Int} {u : Int} {w : List Int} (h0 : 0 ≤ k) (h1 : k < arcs.length) : (idxs ((keys false arcs).take (k + 1).toNat) u).map (fun k => w ++ [k]) = (idxs ((keys false arcs).take k.toNat) u).map (fun k => w ++ [k]) ++ if (gx arcs k).1 = u then [w ++ [k]] else [] := by
  rw [out_step h0 h1, List.map_append]
  congr 1
  split <;> rfl
theorem lg1_end {arcs : List (Int × Int)} {k v : Int} {w : List Int} (h : (arcs.length : Int) ≤ k) : (idxs ((keys false arcs).take k.toNat) (en arcs v w)).map (fun k => w ++ [k]) = lg1 arcs v w := by
  unfold lg1; rw [List.take_of_length_le (by rw [keys_len]; omega)]
theorem ft_step {arcs : List (Int × Int)} {v t i : Int} {ps : List Pp} (h0 : 0 ≤ i) (h1 : i < ps.length) : ft arcs v t ((ps.take (i + 1).toNat).map (·.2)) = ft arcs v t ((ps.take i.toNat).map (·.2)) ++ if wk arcs v (gx ps i).2 = some t then [(gx ps i).2] else [] := by
  rw [gx_take h0 h1, List.map_append]
  unfold ft
  rw [List.filter_append]
  congr 1
  by_cases h : wk arcs v (gx ps i).2 = some t
  · rw [if_pos h]; simp [h]
  · rw [if_neg h]; simp [h]
theorem pl_rd {W : World} {qs : List Pp} {A : Option Addr} {c : Nat} {l : List Int} (h : (pl qs).P W) (hm : ((A, c), l) ∈ qs) : Rd W A (ci .i64 l) := h _ hm
theorem least_less {os : List Pp} {G : List Int} {i k : Int} (hmin : ∀ p ∈ os, p.2 = G ∨ lx G.reverse p.2.reverse < 0) (i0 : 0 ≤ i) (i1 : i < os.length) (hinv : (∃ j : Int, 0 ≤ j ∧ j < i ∧ (gx os j).2 = G) → (gx os k).2 = G) (hl : lx (gx os i).2.reverse (gx os k).2.reverse < 0) : (∃ j : Int, 0 ≤ j ∧ j < i + 1 ∧ (gx os j).2 = G) → (gx os i).2 = G := by
  rintro ⟨j, j0, j1, hj⟩
  by_cases e : j = i
  · rw [← e]; exact hj
  · have hk := hinv ⟨j, j0, by omega, hj⟩
    rcases hmin _ (gx_in i0 i1) with h | h
    · exact h
    · rw [hk] at hl
      have := lx_anti G.reverse (gx os i).2.reverse
      omega
theorem least_not {os : List Pp} {G : List Int} {i k : Int} (hmin : ∀ p ∈ os, p.2 = G ∨ lx G.reverse p.2.reverse < 0) (k0 : 0 ≤ k) (k1 : k < os.length) (hinv : (∃ j : Int, 0 ≤ j ∧ j < i ∧ (gx os j).2 = G) → (gx os k).2 = G) (hl : ¬ lx (gx os i).2.reverse (gx os k).2.reverse < 0) : (∃ j : Int, 0 ≤ j ∧ j < i + 1 ∧ (gx os j).2 = G) → (gx os k).2 = G := by
  rintro ⟨j, j0, j1, hj⟩
  by_cases e : j = i
  · subst e
    rcases hmin _ (gx_in k0 k1) with h | h
    · exact h
    · rw [hj] at hl; exact absurd h hl
  · exact hinv ⟨j, j0, by omega, hj⟩
theorem has_at {os : List Pp} {G : List Int} (h : ∃ p ∈ os, p.2 = G) : ∃ j : Int, 0 ≤ j ∧ j < os.length ∧ (gx os j).2 = G := by
  obtain ⟨p, hp, rfl⟩ := h
  obtain ⟨j, hj, e⟩ := List.getElem_of_mem hp
  refine ⟨(j : Int), by omega, by omega, ?_⟩
  have := gx_eq (xs := os) (i := (j : Int)) (by omega) (by omega)
  rw [Int.toNat_natCast, List.getElem?_eq_getElem hj, e] at this
  rw [← Option.some.inj this]
/-! ### read from elsewhere -/
theorem St.oldKF {W0 V W : World} {F L : List Ent} (HS : St W0 (owns []) V (F ++ L)) (hk : Kpt (owns F) V W) {p : Addr} {v : Value} (hc : W0.cell? p = some v) : W.cell? p = some v :=
  hk.cellN (fun ⟨e, he, ho⟩ => by
    have h1 := ((HS.has e (List.mem_append_left _ he)).2 _ ho).2
    have h2 := World.block_lt_of_cell? W0 p hc
    exact h1.elim (owns_nil _) (fun h3 => by omega)) (HS.old0 hc)
/-- Read from elsewhere: whatever is done within M. -/
def RdF (M : Nat → Prop) (W : World) (B : Option Addr) (cs : List Value) : Prop := ∀ W2 L2, St W M W2 L2 → Rd W2 B cs
theorem RdF.old0 {M : Nat → Prop} {W W2 : World} {L2 : List Ent} {B : Option Addr} {cs : List Value} (h : RdF M W B cs) (HS : St W M W2 L2) : Rd W2 B cs := h W2 L2 HS
theorem RdF.of_old {W0 W : World} {F L : List Ent} {B : Option Addr} {cs : List Value} (h : Rd W0 B cs) (HS : St W0 (owns []) W (F ++ L)) : RdF (owns F) W B cs := fun W2 L2 H2 j v hv => by
  obtain ⟨ad, e, hc⟩ := h j v hv
  exact ⟨ad, e, HS.oldKF H2.kept hc⟩
theorem RdF.of_row {W0 W : World} {M : Nat → Prop} {F L : List Ent} {i n c t z : Nat} {B : Option Addr} {cs : List Value} (HS : St W0 M W (F ++ L)) (hi : L[i]? = some (row B n c cs t z)) : RdF (owns F) W B cs := fun W2 L2 H2 j v hv => by
  have hm := List.mem_of_getElem? hi
  obtain ⟨ad, e, hc⟩ := Rd.row HS (i := F.length + i) (by rw [List.getElem?_append_right (by omega), Nat.add_sub_cancel_left]; exact hi) j v hv
  refine ⟨ad, e, H2.kept.cellN (fun ⟨f, hf, ho⟩ => ?_) hc⟩
  have hne := (List.pairwise_append.1 HS.ne).2.2 f hf _ hm _ ho
  apply hne
  have hb : (ad.add j).block = ad.block := by unfold Addr.add; split <;> rfl
  rw [hb]
  rcases (HS.has _ (List.mem_append_right _ hm)).1.2 with ⟨h9, _⟩ | ⟨g, cap, cur, h9, _⟩
  · cases h9; cases e
  · cases h9; cases e; rfl


end Go.Proofs.Ythfpdpjccnnlhaa.GPathShort
