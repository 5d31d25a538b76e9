/- Written for this claim by gp.py, a program of this session's, over the kit's print. Lean checks it. -/
import Derived.Test.YtbjligkokogokaaGPoolPlaysx0
import Derived.Test.YtbjligkokogokaaGPoolPlayshx
import Derived.WalkKit
import Derived.StillTailTactics
import Derived.Deep.LoopGhost
import Derived.KernelRfl
import Derived.Deep.OwnRows
import Derived.Laws.OwnMore
import Derived.Laws.MakeOwn
import Derived.Maps.AppendAt
import Derived.OrdersHeld
import Derived.Maps.OwnSet
import Derived.Maps.Keyed
import Derived.Maps.Views
import Derived.Laws.CopyRow
import Derived.Laws.IdiomCopy
import Derived.Laws.Entries
import Derived.LaidEql
import Derived.Conc.LoneCalls
import Derived.Conc.LoneSelect
import Derived.Conc.LoneSelectN
namespace Go.Proofs.Ytbjligkokogokaa.GPoolPlays
open Go.RowKit Go.Proofs.YtbjligkokogokaaW.PrintWords Go.Proofs.YtbjligkokogokaaW.PrintLast Go.Proofs.YtbjligkokogokaaW.PrintMore
attribute [local go_sem] max2_int min2_int max_two min_two max_three min_three max_four min_four   -- for this text's walks alone
set_option linter.unusedVariables false
set_option linter.unusedSimpArgs false

--import Derived.WalkKit
--import Derived.StillTailTactics
--import Derived.Deep.LoopGhost
--import Derived.KernelRfl
--import Derived.Deep.OwnRows
--import Derived.Laws.OwnMore
--import Derived.Laws.MakeOwn
--import Derived.Maps.AppendAt
--import Derived.OrdersHeld
--import Derived.Maps.OwnSet
--import Derived.Maps.Keyed
--import Derived.Maps.Views
--import Derived.Laws.CopyRow
--import Derived.Laws.IdiomCopy
--import Derived.Laws.Entries
--import Derived.LaidEql
--import Derived.Conc.LoneCalls
--import Derived.Conc.LoneSelect
--import Derived.Conc.LoneSelectN
/-! ### worlds: what is kept -/
structure Kpt (M : Nat → Prop) (w w' : World) : Prop where
  os : w'.os = w.os
  tape : w'.tape = w.tape
  output : w'.output = w.output
  size : w.heap.size ≤ w'.heap.size
  block : ∀ k, k < w.heap.size → ¬ M k → w'.heap[k]? = w.heap[k]?
theorem Kpt.refl (M : Nat → Prop) (w : World) : Kpt M w w := ⟨rfl, rfl, rfl, Nat.le_refl _, fun _ _ _ => rfl⟩
theorem Kpt.trans {M N : Nat → Prop} {a b c : World} (h : Kpt M a b) (k : Kpt N b c) (hn : ∀ i, N i → M i ∨ a.heap.size ≤ i) : Kpt M a c :=
  ⟨k.os.trans h.os, k.tape.trans h.tape, k.output.trans h.output, Nat.le_trans h.size k.size, fun i hi hm =>
    (k.block i (Nat.lt_of_lt_of_le hi h.size) (fun hN => (hn i hN).elim hm (fun h2 => by omega))).trans (h.block i hi hm)⟩
theorem Kpt.of_below {M : Nat → Prop} {w w' : World} (h : Below w.heap.size w w') : Kpt M w w' := ⟨h.os, h.tape, h.output, h.size, fun k hk _ => h.block k hk⟩
theorem Kpt.below {M : Nat → Prop} {w w' : World} (h : Kpt M w w') (hM : ∀ k, ¬ M k) : Below w.heap.size w w' := ⟨h.os, h.tape, h.output, h.size, fun k hk => h.block k hk (hM k)⟩
theorem Kpt.of_grown {M : Nat → Prop} {w w' : World} {r : Option Nat} (h : w.grownBy w' r) (hM : ∀ k, r = some k → M k) : Kpt M w w' := ⟨h.os, h.tape, h.output, h.size, fun k hk hm => h.block k hk (fun e => hm (hM k e.symm))⟩
theorem Kpt.alloc {M : Nat → Prop} (w : World) (o : Obj) : Kpt M w (w.alloc o) := ⟨rfl, rfl, rfl, by simp, fun k hk _ => heap_alloc_old w o hk⟩
theorem Kpt.drew {M : Nat → Prop} (w : World) (n : Nat) : Kpt M w { w with drawn := n } := ⟨rfl, rfl, rfl, Nat.le_refl _, fun _ _ _ => rfl⟩
theorem Kpt.setRow {M : Nat → Prop} (w : World) (g : Nat) (cs : Array Value) (hM : M g) : Kpt M w (w.setRow g cs) :=
  ⟨rfl, rfl, rfl, by simp [World.setRow], fun k _ hm => setRow_other w g k _ (fun e => hm (e ▸ hM))⟩
/-! ### what is owned -/
structure Ent where
  own : Nat → Prop
  P : World → Prop
  loc : ∀ W W' : World, (∀ k, own k → W'.heap[k]? = W.heap[k]?) → P W → P W'
/-- A block whose cells are all known. -/
def blk (g : Nat) (cs : List Value) (t : Nat) : Ent := ⟨fun k => k = g, fun W => W.heap[g]? = some (.cells cs.toArray t (0, 0)), fun _ _ h p => (h g rfl).trans p⟩
/-- A slice's block from its first cell on; there may be room behind. -/
def row (A : Option Addr) (n c : Nat) (cs : List Value) (t z : Nat) : Ent :=
  ⟨fun k => (Value.slice A n c).ownBlock = some k, fun W => W.ownsRow 0 t z (.slice A n c) n cs, fun W W' h p => by
    refine ⟨p.1, ?_⟩
    rcases p.2 with hn | ⟨g, cap, cur, e, hb, hg, rest⟩
    · exact .inl hn
    · refine .inr ⟨g, cap, cur, e, hb, ?_, rest⟩
      rw [h g (by rw [e]; rfl)]
      exact hg⟩
def owns (L : List Ent) : Nat → Prop := fun k => ∃ e ∈ L, e.own k
structure St (W0 : World) (M : Nat → Prop) (W : World) (L : List Ent) : Prop where
  kept : Kpt M W0 W
  has : ∀ e ∈ L, e.P W ∧ ∀ k, e.own k → k < W.heap.size ∧ (M k ∨ W0.heap.size ≤ k)
  ne : L.Pairwise fun e f => ∀ k, e.own k → ¬ f.own k
namespace St
variable {W0 W W' : World} {M : Nat → Prop} {L : List Ent} {e e' : Ent}
theorem start (W : World) (M : Nat → Prop) : St W M W [] := ⟨.refl _ _, fun _ h => (nomatch h), .nil⟩
theorem get (h : St W0 M W L) {i : Nat} (hi : L[i]? = some e) : e.P W := (h.has e (List.mem_of_getElem? hi)).1
theorem lt (h : St W0 M W L) {i : Nat} (hi : L[i]? = some e) {k : Nat} (hk : e.own k) : k < W.heap.size := ((h.has e (List.mem_of_getElem? hi)).2 k hk).1
/-- The world goes on, nothing of it changes. -/
theorem step (h : St W0 M W L) (hk : Kpt (fun _ => False) W W') : St W0 M W' L :=
  ⟨h.kept.trans hk (fun _ f => f.elim), fun e he => ⟨e.loc W W' (fun k ho => hk.block k ((h.has e he).2 k ho).1 (fun f => f)) (h.has e he).1, fun k ho => ⟨Nat.lt_of_lt_of_le ((h.has e he).2 k ho).1 hk.size, ((h.has e he).2 k ho).2⟩⟩, h.ne⟩
theorem below (h : St W0 M W L) (hb : Below W.heap.size W W') : St W0 M W' L := h.step (.of_below hb)
theorem drew (h : St W0 M W L) (n : Nat) : St W0 M { W with drawn := n } L := h.step (.drew _ _)
/-- Something new. -/
theorem new (h : St W0 M W L) (hk : Kpt (fun _ => False) W W') (hP : e'.P W') (ho : ∀ k, e'.own k → W.heap.size ≤ k ∧ k < W'.heap.size) : St W0 M W' (e' :: L) := by
  have h2 := h.step hk
  refine ⟨h2.kept, fun e he => ?_, List.pairwise_cons.2 ⟨fun f hf k h1 h3 => ?_, h2.ne⟩⟩
  · rcases List.mem_cons.1 he with rfl | he
    · exact ⟨hP, fun k hk' => ⟨(ho k hk').2, .inr (Nat.le_trans h.kept.size (ho k hk').1)⟩⟩
    · exact h2.has e he
  · have := ((h.has f hf).2 k h3).1
    have := (ho k h1).1
    omega
theorem newBlk (h : St W0 M W L) (cs : List Value) (t : Nat) : St W0 M (W.alloc (.cells cs.toArray t)) (blk W.heap.size cs t :: L) :=
  h.new (.alloc _ _) (heap_alloc_new _ _) (fun k hk => by subst hk; exact ⟨Nat.le_refl _, by simp⟩)
/-- One entry changes. -/
theorem upd (h : St W0 M W L) {i : Nat} (hi : L[i]? = some e) (hk : Kpt e.own W W') (hP : e'.P W') (ho : ∀ k, e'.own k → (e.own k ∨ W.heap.size ≤ k) ∧ k < W'.heap.size) : St W0 M W' (L.set i e') := by
  have hm := List.mem_of_getElem? hi
  have hlt := (List.getElem?_eq_some_iff.1 hi).1
  have hel := (List.getElem?_eq_some_iff.1 hi).2
  have hne := List.pairwise_iff_getElem.1 h.ne
  refine ⟨h.kept.trans hk (fun k hk' => ((h.has e hm).2 k hk').2), fun f hf => ?_, List.pairwise_iff_getElem.2 fun a b ha hb hab k h1 h2 => ?_⟩
  · obtain ⟨j, hj, rfl⟩ := List.getElem_of_mem hf
    rw [List.length_set] at hj
    rcases Nat.decEq j i with hji | rfl
    · rw [List.getElem_set_ne (Ne.symm hji)]
      have hf' := h.has L[j] (List.getElem_mem hj)
      refine ⟨L[j].loc W W' (fun k ho' => hk.block k (hf'.2 k ho').1 (fun he => ?_)) hf'.1, fun k ho' => ⟨Nat.lt_of_lt_of_le (hf'.2 k ho').1 hk.size, (hf'.2 k ho').2⟩⟩
      rcases Nat.lt_or_gt_of_ne hji with hlt' | hgt
      · exact hne j i hj hlt hlt' k ho' (hel ▸ he)
      · exact hne i j hlt hj hgt k (hel ▸ he) ho'
    · rw [List.getElem_set_self]
      exact ⟨hP, fun k hk' => ⟨(ho k hk').2, (ho k hk').1.elim (fun h1 => ((h.has e hm).2 k h1).2) (fun h1 => .inr (Nat.le_trans h.kept.size h1))⟩⟩
  · rw [List.length_set] at ha hb
    have key : ∀ (j : Nat) (hj : j < L.length), j ≠ i → L[j].own k → ¬ e'.own k := fun j hj hji h3 h4 => by
      rcases (ho k h4).1 with h5 | h5
      · rcases Nat.lt_or_gt_of_ne hji with hlt' | hgt
        · exact hne j i hj hlt hlt' k h3 (hel ▸ h5)
        · exact hne i j hlt hj hgt k (hel ▸ h5) h3
      · have := ((h.has _ (List.getElem_mem hj)).2 k h3).1
        omega
    rcases Nat.decEq a i with hai | rfl
    · rw [List.getElem_set_ne (Ne.symm hai)] at h1
      rcases Nat.decEq b i with hbi | rfl
      · rw [List.getElem_set_ne (Ne.symm hbi)] at h2
        exact hne a b ha hb hab k h1 h2
      · rw [List.getElem_set_self] at h2
        exact key a (by simpa using ha) hai h1 h2
    · rw [List.getElem_set_self] at h1
      rw [List.getElem_set_ne (by omega)] at h2
      exact key b (by simpa using hb) (by omega) h2 h1
/-- A part of what is owned, in an order of its own; and the rest. -/
theorem perm (h : St W0 M W L) {L' : List Ent} (hp : L.Perm L') : St W0 M W L' :=
  ⟨h.kept, fun e he => h.has e (hp.mem_iff.2 he), (hp.pairwise_iff (fun {x y} hxy k h1 h2 => hxy k h2 h1)).1 h.ne⟩
theorem drop1 (h : St W0 M W (e :: L)) : St W0 M W L := ⟨h.kept, fun f hf => h.has f (List.mem_cons_of_mem _ hf), (List.pairwise_cons.1 h.ne).2⟩
theorem tail {F : List Ent} (h : St W0 M W (F ++ L)) : St W0 M W L := ⟨h.kept, fun f hf => h.has f (List.mem_append_right _ hf), (List.pairwise_append.1 h.ne).2.1⟩
theorem focus {F : List Ent} (h : St W0 M W (F ++ L)) : St W (owns F) W F :=
  ⟨.refl _ _, fun e he => ⟨(h.has e (List.mem_append_left _ he)).1, fun k hk => ⟨((h.has e (List.mem_append_left _ he)).2 k hk).1, .inl ⟨e, he, hk⟩⟩⟩, (List.pairwise_append.1 h.ne).1⟩
/-- Behind a call: what it had is as it says, the rest as it was. -/
theorem join {F G : List Ent} (h : St W0 M W (F ++ L)) (hc : St W (owns F) W' G) : St W0 M W' (G ++ L) := by
  have hF : ∀ k, owns F k → M k ∨ W0.heap.size ≤ k := fun k ⟨e, he, hk⟩ => ((h.has e (List.mem_append_left _ he)).2 k hk).2
  have hL : ∀ f ∈ L, ∀ k, f.own k → k < W.heap.size ∧ ¬ owns F k := fun f hf k hk =>
    ⟨((h.has f (List.mem_append_right _ hf)).2 k hk).1, fun ⟨e, he, hk'⟩ => (List.pairwise_append.1 h.ne).2.2 e he f hf k hk' hk⟩
  refine ⟨h.kept.trans hc.kept hF, fun f hf => ?_, List.pairwise_append.2 ⟨hc.ne, (List.pairwise_append.1 h.ne).2.1, fun f hf g hg k h1 h2 => ?_⟩⟩
  · rcases List.mem_append.1 hf with hf | hf
    · exact ⟨(hc.has f hf).1, fun k hk => ⟨((hc.has f hf).2 k hk).1, (((hc.has f hf).2 k hk).2).elim (hF k) (fun h3 => .inr (Nat.le_trans h.kept.size h3))⟩⟩
    · have h3 := h.has f (List.mem_append_right _ hf)
      exact ⟨f.loc W W' (fun k hk => hc.kept.block k (hL f hf k hk).1 (hL f hf k hk).2) h3.1, fun k hk => ⟨Nat.lt_of_lt_of_le (h3.2 k hk).1 hc.kept.size, (h3.2 k hk).2⟩⟩
  · have h3 := hL g hg k h2
    rcases ((hc.has f hf).2 k h1).2 with h4 | h4
    · exact h3.2 h4
    · omega
theorem cast_ {L2 : List Ent} (h : St W0 M W L) (e : L = L2) : St W0 M W L2 := e ▸ h
/-- Something is told otherwise. -/
theorem turn (h : St W0 M W L) {i : Nat} (hi : L[i]? = some e) (hP : e.P W → e'.P W) (ho : ∀ k, e'.own k → e.own k) : St W0 M W (L.set i e') :=
  h.upd hi (.refl _ _) (hP (h.get hi)) (fun k hk => ⟨.inl (ho k hk), h.lt hi (ho k hk)⟩)
theorem blkE (h : St W0 M W L) {i g t : Nat} {cs : List Value} (hi : L[i]? = some (blk g cs t)) : W.heap[g]? = some (.cells cs.toArray t (0, 0)) := h.get hi
/-- A cell of a block. -/
theorem cell (h : St W0 M W L) {i g t : Nat} {cs : List Value} (hi : L[i]? = some (blk g cs t)) {j : Nat} {v : Value} (hv : cs[j]? = some v) : W.cell? ⟨g, j, none⟩ = some v := by
  rw [cell_of_row W g j cs.toArray t (0, 0) (h.blkE hi)]
  simpa using hv
theorem rowE (h : St W0 M W L) {i n c t z : Nat} {A : Option Addr} {cs : List Value} (hi : L[i]? = some (row A n c cs t z)) : W.ownsRow 0 t z (.slice A n c) n cs := h.get hi
/-- A cell of a row. -/
theorem rcell (h : St W0 M W L) {i g n c t z : Nat} {cs : List Value} (hi : L[i]? = some (row (some ⟨g, 0, none⟩) n c cs t z)) {j : Nat} {v : Value} (hv : cs[j]? = some v) : W.cell? ⟨g, j, none⟩ = some v := by
  have := (h.rowE hi).cells (g := g) rfl j v hv
  rwa [show (⟨g, 0, none⟩ : Addr).add j = ⟨g, j, none⟩ by unfold Addr.add; split <;> simp_all] at this
theorem rlen (h : St W0 M W L) {i n c t z : Nat} {A : Option Addr} {cs : List Value} (hi : L[i]? = some (row A n c cs t z)) : cs.length = n * z := (h.rowE hi).1
theorem rcap (h : St W0 M W L) {i n c t z : Nat} {A : Option Addr} {cs : List Value} (hi : L[i]? = some (row A n c cs t z)) : n ≤ c ∧ c ≤ maxLen := by
  rcases (h.rowE hi).2 with ⟨e, h2⟩ | ⟨g, cap, cur, e, _, _, h1, h2, _⟩
  · have : c = 0 := (by cases e; rfl)
    exact ⟨by omega, by omega⟩
  · have : c = cap := (by cases e; rfl)
    omega
end St
/-! ### frames -/
def Fr (l : List Value) : Act := ⟨l.toArray, []⟩
theorem Fr_put (l : List Value) (d : Nat) (v : Value) : (Fr l).put (some d) v = Fr (l.set d v) := by
  simp [Fr, Act.put]
section
variable {P : Program} {ops : Array Oper} {Q : Exit → Act → World → Prop} {R : Act → Prop} {rest : List Oper} {a : Act} {l : List Value} {W W' W0 : World} {M : Nat → Prop} {L : List Ent} {v : Value} {op : Op} {d : Nat} {ty : TypeId} {ps : String} {af : Array Edge} {gd : Option (Nat × Bool)} {dst : Option Nat}
/-- An operation that gives a value. -/
theorem qw (v : Value) (hw : Region.wanted ⟨some d, op, ty, ps, af, gd⟩ (yielded ops (Fr l).tmps) = true) (hr : (execOp (Fr l).eval ⟨some d, op, ty, ps, af, gd⟩).run P W = .ok (.value v) W')
    (h : wpList P ops Q rest (Fr (l.set d v)) W') : wpList P ops Q (⟨some d, op, ty, ps, af, gd⟩ :: rest) (Fr l) W := by
  refine wpList_step fun K hK => ?_
  rw [if_pos hw]; unfold Oper.wp; rw [hr]
  exact hK _ _ ((Fr_put l d v) ▸ h)
theorem ql (v : Value) (hw : Region.wanted ⟨some d, op, ty, ps, af, gd⟩ (yielded ops (Fr l).tmps) = true) (hr : (execOp (Fr l).eval ⟨some d, op, ty, ps, af, gd⟩).run P W = .ok (.value v) W)
    (h : wpList P ops Q rest (Fr (l.set d v)) W) : wpList P ops Q (⟨some d, op, ty, ps, af, gd⟩ :: rest) (Fr l) W := qw v hw hr h
theorem qs (v : Value) (hw : Region.wanted ⟨some d, op, ty, ps, af, gd⟩ (yielded ops (Fr l).tmps) = true) (hr : (execOp (Fr l).eval ⟨some d, op, ty, ps, af, gd⟩).run P W = .ok (.value v) W)
    (h : wpStill P ops W R rest (Fr (l.set d v))) : wpStill P ops W R (⟨some d, op, ty, ps, af, gd⟩ :: rest) (Fr l) := by
  refine wpStill_step fun K hK => ?_
  rw [if_pos hw]; unfold Oper.still; rw [hr]
  exact ⟨rfl, hK _ ((Fr_put l d v) ▸ h)⟩
/-- An operation that its guard leaves out. -/
theorem qln (hw : Region.wanted ⟨some d, op, ty, ps, af, gd⟩ (yielded ops (Fr l).tmps) = false) (h : wpList P ops Q rest (Fr (l.set d undef)) W) : wpList P ops Q (⟨some d, op, ty, ps, af, gd⟩ :: rest) (Fr l) W := by
  refine wpList_step fun K hK => ?_
  rw [if_neg (by rw [hw]; decide)]
  exact hK _ _ ((Fr_put l d undef) ▸ h)
/-- An operation without a value. -/
theorem qk (hw : Region.wanted ⟨none, op, ty, ps, af, gd⟩ (yielded ops (Fr l).tmps) = true) (hr : (execOp (Fr l).eval ⟨none, op, ty, ps, af, gd⟩).run P W = .ok .skip W')
    (h : wpList P ops Q rest (Fr l) W') : wpList P ops Q (⟨none, op, ty, ps, af, gd⟩ :: rest) (Fr l) W := by
  refine wpList_step fun K hK => ?_
  rw [if_pos hw]; unfold Oper.wp; rw [hr]
  exact hK _ _ h
/-- A call of a function. -/
theorem qc {f : FuncId} {args : Array Value} (hw : Region.wanted ⟨some d, op, ty, ps, af, gd⟩ (yielded ops (Fr l).tmps) = true) (hr : (execOp (Fr l).eval ⟨some d, op, ty, ps, af, gd⟩).run P W = .ok (.enter f args) W)
    (h : Calls P f args W fun e w' => ∃ v, e = .returned v ∧ wpList P ops Q rest (Fr (l.set d v)) w') : wpList P ops Q (⟨some d, op, ty, ps, af, gd⟩ :: rest) (Fr l) W := by
  refine wpList_step fun K hK => ?_
  rw [if_pos hw]; unfold Oper.wp; rw [hr]
  refine h.mono ?_
  rintro e w' ⟨v, rfl, hv⟩
  exact hK _ _ ((Fr_put l d v) ▸ hv)
theorem R_call {f : FuncId} {fn : Func} {as_ : Array Operand} {ts : Array TypeId} (args : Array Value) (hf : P.funcs[f]? = some fn) (hn : (fn.name == "runtime.NumGoroutine") = false) (hb : fn.body.isSome = true) (ha : as_.map a.eval = args) :
    (execOp a.eval ⟨dst, .call { callee := .value (.func f), args := as_, argTypes := ts }, ty, ps, af, gd⟩).run P W = .ok (.enter f args) W := by
  have hc : ¬ fn.body = none := by intro h; rw [h] at hb; cases hb
  have hm : ¬ fn.name = "runtime.NumGoroutine" := by simpa using hn
  have h0 : (program).run P W = .ok P W := rfl
  simp [execOp, resolve, Deferred.ofValue, invoke, Act.eval, ha, callFunc, h0, hf, hm, hc]
theorem R_bool {x : World} {p : Prop} [Decidable p] {r : Result Next} (h : r = .ok (.value (.bool (decide p))) x) (hp : p) : r = .ok (.value (.bool true)) x := by rw [h, decide_eq_true hp]
theorem R_nbool {x : World} {p : Prop} [Decidable p] {r : Result Next} (h : r = .ok (.value (.bool (decide p))) x) (hp : ¬ p) : r = .ok (.value (.bool false)) x := by rw [h, decide_eq_false hp]
theorem R_beq {x : World} {b c : Bool} {r : Result Next} (h : r = .ok (.value (.bool b)) x) (hb : b = c) : r = .ok (.value (.bool c)) x := by rw [h, hb]
theorem R_int {x : World} {k : IntKind} {m n : Int} {r : Result Next} (h : r = .ok (.value (.int k m)) x) (e : m = n) : r = .ok (.value (.int k n)) x := by rw [h, e]
theorem R_eq {x : World} {u v : Value} {r : Result Next} (h : r = .ok (.value u) x) (e : u = v) : r = .ok (.value v) x := by rw [h, e]
theorem w64 {n : Int} (h : -9223372036854775808 ≤ n ∧ n ≤ 9223372036854775807) : IntKind.i64.wrap n = n := by rw [IntKind.wrap_i64]; omega
/-! reading -/
def aggB (P : Program) (t : TypeId) : Bool := match P.underlying t with | some (.struct _) => true | some (.array _ _) => true | some _ => false | none => true
def someB (P : Program) (t : TypeId) : Bool := (P.underlying t).isSome
theorem run_isAgg {t : TypeId} {b : Bool} (h : aggB P t = b) (hs : someB P t = true) : (isAgg t).run P W = .ok b W := by
  unfold aggB at h; unfold someB at hs
  cases hu : P.underlying t with
  | none => simp [hu] at hs
  | some u => rw [hu] at h; subst h; cases u <;> simp [isAgg, run_underlying hu]
theorem run_sizeOf {t n : Nat} (h : (P.info? t).map (·.size) = some n) : (sizeOf t).run P W = .ok n W := by
  cases hi : P.info? t with
  | none => rw [hi] at h; cases h
  | some i => rw [hi] at h; simp only [Option.map_some, Option.some.injEq] at h; simp [sizeOf, typeInfo, hi, h]
theorem R_load {t : TypeId} {x : Operand} {p : Addr} {v : Value} (hx : a.eval x = .pointer (some p)) (hu : aggB P t = false) (hs : someB P t = true) (hc : W.cell? p = some v) :
    (execOp a.eval ⟨dst, .load t x, ty, ps, af, gd⟩).run P W = .ok (.value v) W := by
  simp [execOp, Instr.loadAt, hx, Instr.sureAddr, loadVar, run_isAgg hu hs, load, Sem.run, hc]
theorem R_loadN {t : TypeId} {x : Operand} {p : Addr} (cs : List Value) (hx : a.eval x = .pointer (some p)) (hu : aggB P t = true) (hs : someB P t = true) (hn : (P.info? t).map (·.size) = some cs.length) (hc : ∀ j v, cs[j]? = some v → W.cell? (p.add j) = some v) :
    (execOp a.eval ⟨dst, .load t x, ty, ps, af, gd⟩).run P W = .ok (.value (.agg cs.toArray)) W := by
  simp [execOp, Instr.loadAt, hx, Instr.sureAddr, loadVar, run_isAgg hu hs, run_sizeOf hn, run_loadCells_list W p cs hc]
theorem two_at {g o : Nat} {u v : Value} (h0 : W.cell? ⟨g, o, none⟩ = some u) (h1 : W.cell? ⟨g, o + 1, none⟩ = some v) : ∀ j x, [u, v][j]? = some x → W.cell? ((⟨g, o, none⟩ : Addr).add j) = some x := by
  intro j x hx; rw [Addr.add_lit]
  match j, hx with
  | 0, hx => cases hx; exact h0
  | 1, hx => cases hx; exact h1
  | n + 2, hx => simp at hx
/-- An element of a slice that begins anywhere. -/
theorem R_indexA {t : TypeId} {x y : Operand} {p : Addr} {n c z e : Nat} {k : IntKind} {i : Int} (hx : a.eval x = .slice (some p) n c) (hy : a.eval y = .int k i) (ht : P.underlying t = some (.slice e)) (hz : (P.info? e).map (·.size) = some z) (h0 : 0 ≤ i) (h1 : i < n) :
    (execOp a.eval ⟨dst, .indexAddr t x y, ty, ps, af, gd⟩).run P W = .ok (.value (.pointer (some (p.add (i.toNat * z))))) W := by
  simp [execOp, Instr.indexAt, hx, hy, asIntOf, run_underlying ht, run_sizeOf hz, h0, h1]
theorem run_sliceBound {k : IntKind} {i : Int} {y : Nat} {code : BoundsCode} (h0 : 0 ≤ i) (h1 : i ≤ y) : (Instr.sliceBound (.int k i) y code).run P W = .ok i.toNat W := by
  simp [Instr.sliceBound, asIntOf, h0, h1]
/-- Where a slice's rest begins. -/
def cutA (A : Option Addr) (c m z : Nat) : Option Addr := if c = m then A else A.map (·.add (m * z))
/-- A slice's rest: s[l:]. -/
theorem R_sliceL {t : TypeId} {x y : Operand} {A : Option Addr} {n c z e : Nat} {k : IntKind} {i : Int} (hx : a.eval x = .slice A n c) (hy : a.eval y = .int k i) (ht : P.underlying t = some (.slice e)) (hz : (P.info? e).map (·.size) = some z) (h0 : 0 ≤ i) (h1 : i ≤ n) :
    (execOp a.eval ⟨dst, .slice t x (some y) none none, ty, ps, af, gd⟩).run P W = .ok (.value (.slice (cutA A c i.toNat z) (n - i.toNat) (c - i.toNat))) W := by
  simp [execOp, Instr.sliceAt, Instr.slice, Instr.sliceBounds, run_sliceBound h0 h1, hx, hy, run_underlying ht, run_sizeOf hz, cutA]
end
/-! ### what changes the world -/
def splice (cs : List Value) (j : Nat) : List Value → List Value
  | [] => cs
  | v :: vs => splice (cs.set j v) (j + 1) vs
theorem splice_eq : ∀ (vs cs : List Value) (j : Nat), j + vs.length ≤ cs.length → splice cs j vs = cs.take j ++ vs ++ cs.drop (j + vs.length)
  | [], cs, j, h => by simp [splice]
  | v :: vs, cs, j, h => by
    simp only [List.length_cons] at h ⊢
    rw [splice, splice_eq vs _ _ (by simp; omega), List.take_set, List.drop_set_of_lt (by omega)]
    have hj : j < cs.length := by omega
    rw [List.take_succ_eq_append_getElem hj]
    have h1 : (List.take j cs ++ [cs[j]]).set j v = List.take j cs ++ [v] := by
      rw [List.set_append_right _ _ (by simp; omega)]
      simp [List.length_take, Nat.min_eq_left (Nat.le_of_lt hj)]
    rw [h1]
    simp [Nat.add_assoc, Nat.add_comm 1]
section
variable {P : Program} {ops : Array Oper} {Q : Exit → Act → World → Prop} {R : Act → Prop} {rest : List Oper} {a : Act} {l : List Value} {W W' W0 : World} {M : Nat → Prop} {L : List Ent} {v : Value} {op : Op} {d : Nat} {ty : TypeId} {ps : String} {af : Array Edge} {gd : Option (Nat × Bool)} {dst : Option Nat}
theorem R_store {t : TypeId} {x y : Operand} {g j tb : Nat} {cs : List Value} {v : Value} (news : List Value) (hg : W.heap[g]? = some (.cells cs.toArray tb (0, 0))) (hx : a.eval x = .pointer (some ⟨g, j, none⟩)) (hy : a.eval y = v) (hv : v.cells = news.toArray)
    (hn : (P.info? t).map (·.size) = some news.length) (h1 : ∀ u ∈ news, u.oneCell' = true) (hfit : j + news.length ≤ cs.length) :
    (execOp a.eval ⟨dst, .store t x y, ty, ps, af, gd⟩).run P W = .ok .skip (W.setRow g (splice cs j news).toArray) := by
  have h2 := run_storeCells_at (P := P) g j tb news 0 cs.toArray W hg (by simpa using hfit) h1
  rw [splice_eq _ _ _ hfit]
  simp only [Nat.add_zero] at h2
  simp [execOp, Instr.storeAt, hx, hy, Instr.sureAddr, storeVar, hv, run_sizeOf hn, h2]
theorem St.setBlk (HS : St W0 M W L) {i g tb : Nat} {cs cs' : List Value} (hi : L[i]? = some (blk g cs tb)) : St W0 M (W.setRow g cs'.toArray) (L.set i (blk g cs' tb)) :=
  HS.upd hi (.setRow _ _ _ rfl) (setRow_heap W g _ _ tb _ (HS.blkE hi)) (fun k hk => ⟨.inl hk, by have := HS.lt hi hk; simpa [World.setRow] using this⟩)
/-- A store into a block. -/
theorem ks {t : TypeId} {x y : Operand} {v : Value} (HS : St W0 M W L) (i : Nat) {g tb : Nat} {cs : List Value} (hi : L[i]? = some (blk g cs tb)) (j : Nat) (news : List Value) (hw : Region.wanted ⟨dst, .store t x y, ty, ps, af, gd⟩ (yielded ops (Fr l).tmps) = true)
    (hx : (Fr l).eval x = .pointer (some ⟨g, j, none⟩)) (hy : (Fr l).eval y = v) (hv : v.cells = news.toArray) (hn : (P.info? t).map (·.size) = some news.length) (h1 : ∀ u ∈ news, u.oneCell' = true) (hfit : j + news.length ≤ cs.length) (hd : dst = none)
    (h : ∀ W', St W0 M W' (L.set i (blk g (splice cs j news) tb)) → wpList P ops Q rest (Fr l) W') : wpList P ops Q (⟨dst, .store t x y, ty, ps, af, gd⟩ :: rest) (Fr l) W := by
  subst hd
  exact qk hw (R_store news (HS.blkE hi) hx hy hv hn h1 hfit) (h _ (HS.setBlk hi))
/-- A new block: alloc, box, a literal's. -/
theorem kb (HS : St W0 M W L) (cs : List Value) (t : Nat) (g0 : Nat → Value) (hw : Region.wanted ⟨some d, op, ty, ps, af, gd⟩ (yielded ops (Fr l).tmps) = true)
    (hr : (execOp (Fr l).eval ⟨some d, op, ty, ps, af, gd⟩).run P W = .ok (.value (g0 W.heap.size)) (W.alloc (.cells cs.toArray t)))
    (h : ∀ g W', St W0 M W' (blk g cs t :: L) → wpList P ops Q rest (Fr (l.set d (g0 g))) W') : wpList P ops Q (⟨some d, op, ty, ps, af, gd⟩ :: rest) (Fr l) W :=
  qw _ hw hr (h _ _ (HS.newBlk cs t))
theorem row_new (W : World) (n c : Nat) (cs cur : List Value) (t z : Nat) (h1 : cs.length = n * z) (h2 : cur.length = c * z) (h3 : n ≤ c) (h4 : c ≤ maxLen) (h5 : cur.take (n * z) = cs) : (row (some ⟨W.heap.size, 0, none⟩) n c cs t z).P (W.alloc (.cells cur.toArray t)) :=
  ⟨h1, .inr ⟨_, _, _, rfl, Nat.zero_le _, heap_alloc_new _ _, h3, h4, by simpa using h2, by simpa using h5⟩⟩
theorem St.newRow (HS : St W0 M W L) (n c : Nat) (cs cur : List Value) (t z : Nat) (h1 : cs.length = n * z) (h2 : cur.length = c * z) (h3 : n ≤ c) (h4 : c ≤ maxLen) (h5 : cur.take (n * z) = cs) : St W0 M (W.alloc (.cells cur.toArray t)) (row (some ⟨W.heap.size, 0, none⟩) n c cs t z :: L) :=
  HS.new (.alloc _ _) (row_new W n c cs cur t z h1 h2 h3 h4 h5) (fun k hk => by simp [row, Value.ownBlock] at hk; subst hk; exact ⟨Nat.le_refl _, by simp⟩)
/-- A literal slice. -/
theorem kl (HS : St W0 M W L) (n : Nat) (cs : List Value) (t z : Nat) (hw : Region.wanted ⟨some d, op, ty, ps, af, gd⟩ (yielded ops (Fr l).tmps) = true)
    (hr : (execOp (Fr l).eval ⟨some d, op, ty, ps, af, gd⟩).run P W = .ok (.value (.slice (some ⟨W.heap.size, 0, none⟩) n n)) (W.alloc (.cells cs.toArray t))) (h1 : cs.length = n * z) (h2 : n ≤ 140737488355327)
    (h : ∀ g W', St W0 M W' (row (some ⟨g, 0, none⟩) n n cs t z :: L) → wpList P ops Q rest (Fr (l.set d (.slice (some ⟨g, 0, none⟩) n n))) W') : wpList P ops Q (⟨some d, op, ty, ps, af, gd⟩ :: rest) (Fr l) W :=
  qw _ hw hr (h _ _ (HS.newRow n n cs cs t z h1 h1 (Nat.le_refl _) (by unfold maxLen; omega) (List.take_of_length_le (by omega))))
theorem zeroV {e : TypeId} {zs : List Value} (hz : ((P.info? e).bind (·.zero)).map (·.cells) = some zs.toArray) : ∃ i zv, P.info? e = some i ∧ i.zero = some zv ∧ zv.cells = zs.toArray := by
  cases hi : P.info? e with
  | none => rw [hi] at hz; cases hz
  | some i =>
    rw [hi] at hz
    simp only [Option.bind_some] at hz
    cases hv : i.zero with
    | none => rw [hv] at hz; cases hz
    | some zv => rw [hv] at hz; exact ⟨i, zv, rfl, hv, by simpa using hz⟩
/-- What is appended. -/
structure Src (W : World) (x : Value) (m z : Nat) (news : List Value) : Prop where
  val : ∃ A c, x = .slice A m c ∧ ((A = none ∧ m = 0) ∨ ∃ ad, A = some ad ∧ ∀ j u, news[j]? = some u → W.cell? (ad.add j) = some u)
  len : news.length = m * z
  one : ∀ u ∈ news, u.oneCell' = true
theorem Src.of_row (HS : St W0 M W L) {i n c t z : Nat} {A : Option Addr} {cs : List Value} (hi : L[i]? = some (row A n c cs t z)) (h1 : ∀ u ∈ cs, u.oneCell' = true) : Src W (.slice A n c) n z cs := by
  refine ⟨⟨A, c, rfl, ?_⟩, HS.rlen hi, h1⟩
  rcases (HS.rowE hi).2 with ⟨e, h2⟩ | ⟨g, cap, cur, e, _⟩
  · cases e; exact .inl ⟨rfl, rfl⟩
  · cases e; exact .inr ⟨_, rfl, (HS.rowE hi).cells rfl⟩
theorem run_append_none {t ty' e : TypeId} {i : TypeInfo} (ht : P.underlying t = some (.slice e)) (hi : P.info? e = some i) (A : Option Addr) (n c c2 : Nat) (hc : n ≤ c) (hc2 : c ≤ 9223372036854775807) :
    (Builtin.append_ #[t, t] ty' #[.slice A n c, .slice none 0 c2]).run P W = .ok (.slice A n c) W := by
  cases A <;> simp [Builtin.append_, run_underlying ht, sizeOf, typeInfo, hi, Builtin.lenOf, hc, Builtin.firstCells, storeCells]
theorem append_own {t ty' e : TypeId} (HS : St W0 M W L) {i n c z : Nat} {A : Option Addr} {cs : List Value} (hi : L[i]? = some (row A n c cs e z)) (zs : List Value) (by_ : Nat) {x : Value} {m : Nat} {news : List Value} (hsrc : Src W x m z news)
    (ht : P.underlying t = some (.slice e)) (hz : ((P.info? e).bind (·.zero)).map (·.cells) = some zs.toArray) (hzl : zs.length = z) (hs : (P.info? e).map (·.size) = some z) (hb : (P.info? e).map (·.bytes) = some by_) (h0 : 0 < z) (h63 : n + m ≤ 140737488355327) (hbytes : (n + m) * by_ ≤ 140737488355328) :
    ∃ A' c' W', (Builtin.append_ #[t, t] ty' #[.slice A n c, x]).run P W = .ok (.slice A' (n + m) c') W' ∧ St W0 M W' (L.set i (row A' (n + m) c' (cs ++ news) e z)) ∧ Kpt (row A n c cs e z).own W W' := by
  obtain ⟨ti, zv, hti, hzv, hc⟩ := zeroV hz
  rw [hti] at hs hb
  have hs' : ti.size = z := by simpa using hs
  have hb' : ti.bytes = by_ := by simpa using hb
  obtain ⟨B, c2, rfl, hB⟩ := hsrc.val
  have hr := HS.rowE hi
  rcases hB with ⟨rfl, rfl⟩ | ⟨ad, rfl, hcell⟩
  · have hn : news = [] := List.eq_nil_of_length_eq_zero (by rw [hsrc.len]; omega)
    subst hn
    have hcap := HS.rcap hi
    refine ⟨A, c, W, run_append_none ht hti A n c c2 hcap.1 (by have := hcap.2; unfold maxLen at this; omega), ?_⟩
    rw [Nat.add_zero, List.append_nil]
    exact ⟨HS.turn hi id (fun _ h => h), .refl _ _⟩
  · obtain ⟨v', w', hrun, hown, hgr, _, hat⟩ := run_append_own_at W 0 t ty' e ti zv z by_ ht hti hzv hs' hb' (by rw [hc]; simpa using hzl) h0 _ n cs hr ad m c2 news hsrc.len hcell hsrc.one (by unfold maxLen; omega) hbytes (Nat.zero_le _)
    have hv : ∃ A' c', v' = .slice A' (n + m) c' := by
      rcases hown.2 with ⟨e, h⟩ | ⟨g, cap, cur, e, _⟩
      · exact ⟨none, 0, by rw [e, h]⟩
      · exact ⟨_, _, e⟩
    obtain ⟨A', c', rfl⟩ := hv
    refine ⟨A', c', w', hrun, HS.upd hi (e' := row A' (n + m) c' (cs ++ news) e z) (.of_grown hgr (fun k hk => hk)) hown (fun k hk => ⟨?_, (hown.lt k hk).2⟩), .of_grown hgr (fun k hk => hk)⟩
    have hk' : (Value.slice A' (n + m) c').ownBlock = some k := hk
    rcases hat with h | h
    · exact .inl (show (Value.slice A n c).ownBlock = some k from h ▸ hk')
    · rw [h] at hk'
      exact .inr (Nat.le_of_eq (Option.some.inj hk'))
theorem St.nilRow (HS : St W0 M W L) (t z : Nat) : St W0 M W (row none 0 0 [] t z :: L) :=
  HS.new (.refl _ _) (World.ownsRow_nil W 0 t z) (fun k hk => by cases hk)
theorem R_append {t : TypeId} {s x : Operand} {u v : Value} {r : Value} (hs : a.eval s = u) (hx : a.eval x = v) (h : (Builtin.append_ #[t, t] ty #[u, v]).run P W = .ok r W') :
    (execOp a.eval ⟨dst, .call { callee := .builtin .append, args := #[s, x], argTypes := #[t, t] }, ty, ps, af, gd⟩).run P W = .ok (.value r) W' := by
  simp [execOp, resolve, invoke, builtin, hs, hx, h]
/-- append to a row of one's own. -/
theorem ka {t e : TypeId} {s x : Operand} (HS : St W0 M W L) (i : Nat) {n c z m : Nat} {A : Option Addr} {cs news : List Value} {xv : Value} (hi : L[i]? = some (row A n c cs e z)) (hsrc : Src W xv m z news) (zs : List Value) (by_ : Nat)
    (hw : Region.wanted ⟨some d, .call { callee := .builtin .append, args := #[s, x], argTypes := #[t, t] }, ty, ps, af, gd⟩ (yielded ops (Fr l).tmps) = true)
    (hs : (Fr l).eval s = .slice A n c) (hx : (Fr l).eval x = xv)
    (ht : P.underlying t = some (.slice e)) (hz : ((P.info? e).bind (·.zero)).map (·.cells) = some zs.toArray) (hzl : zs.length = z) (hsz : (P.info? e).map (·.size) = some z) (hb : (P.info? e).map (·.bytes) = some by_) (h0 : 0 < z) (h63 : n + m ≤ 140737488355327) (hbytes : (n + m) * by_ ≤ 140737488355328)
    (h : ∀ A' c' W', St W0 M W' (L.set i (row A' (n + m) c' (cs ++ news) e z)) → wpList P ops Q rest (Fr (l.set d (.slice A' (n + m) c'))) W') :
    wpList P ops Q (⟨some d, .call { callee := .builtin .append, args := #[s, x], argTypes := #[t, t] }, ty, ps, af, gd⟩ :: rest) (Fr l) W := by
  obtain ⟨A', c', W', hrun, HS', _⟩ := append_own (ty' := ty) HS hi zs by_ hsrc ht hz hzl hsz hb h0 h63 hbytes
  exact qw _ hw (R_append hs hx hrun) (h _ _ _ HS')
/-! the code -/
/-- A drawn region whose first n rows only read. -/
theorem rg_still {id : Nat} {ol : List Oper} (HS : St W0 M W L) (n : Nat) (hm : P.follows .mixedOrders = true) (hB : Region.lexTailB .any ol.toArray n = true)
    (h : ∀ W', St W0 M W' L → Kpt (fun _ => False) W W' → wpStill P ol.toArray W' (fun a' => wpList P ol.toArray Q (ol.drop n) a' W') (ol.take n) a) : (Code.region id ol.toArray true).wp P Q a W :=
  wp_region_still_tail n hm hB (h _ (HS.drew _) (.drew _ _))
theorem calls_enter {f : FuncId} {fn : Func} {c : Code} {args : Array Value} {w : World} {R : Ending → World → Prop} (fl : List Value) (hf : P.funcs[f]? = some fn) (hb : fn.body = some c) (ha : (args.toList ++ List.replicate (fn.ntmps - args.size) undef) = fl)
    (h : c.wp P (bodyPost P fn R) (Fr fl) w) : Calls P f args w R := by
  refine calls_of_wp hf hb ?_
  have e : (args ++ Array.replicate (fn.ntmps - args.size) undef) = fl.toArray := by rw [← ha]; apply Array.ext'; simp
  rw [e]; exact h
theorem ret_ {fn : Func} {R : Ending → World → Prop} (v : Value) (hr : (results fn (Fr l).tmps).run P W = .ok v W) (h : R (.returned v) W) : bodyPost P fn R .ret (Fr l) W := ⟨rfl, v, hr, h⟩
end

/-! ### small words -/
section
variable {P : Program} {Q : Exit → Act → World → Prop} {next : Act → World → Prop} {a : Act} {l : List Value} {W W' W0 : World} {M : Nat → Prop} {L : List Ent} {id j : Nat}
theorem x_then (h : next a W) : Exit.then next Q .normal a W := h
theorem x_thenE (h : Q (.exit id) a W) : Exit.then next Q (.exit id) a W := h
theorem x_thenR (h : Q .ret a W) : Exit.then next Q .ret a W := h
theorem x_inb (h : Q .normal a W) : Exit.inBlock id Q .normal a W := h
theorem x_inbR (h : Q .ret a W) : Exit.inBlock id Q .ret a W := h
theorem x_hit (h : Q .normal a W) : Exit.inBlock id Q (.exit id) a W := by simpa [Exit.inBlock] using h
theorem x_pass (hne : id ≠ j) (h : Q (.exit j) a W) : Exit.inBlock id Q (.exit j) a W := by simpa [Exit.inBlock, hne, Ne.symm hne] using h
theorem one_ {news : List Value} (h : news.all (·.oneCell') = true) : ∀ u ∈ news, u.oneCell' = true := List.all_eq_true.1 h
theorem beq_t {x y : Int} (h : x = y) : (x == y) = true := beq_iff_eq.2 h
theorem beq_f {x y : Int} (h : ¬ x = y) : (x == y) = false := beq_eq_false_iff_ne.2 h
theorem bne_f {x y : Int} (h : x = y) : (x != y) = false := by simp [h]
theorem k_eq {x : Value} {k : IntKind} {m n : Int} (h : x = .int k m) (e : m = n) : x = .int k n := e ▸ h
theorem owns_nil (k : Nat) : ¬ owns [] k := fun ⟨_, h, _⟩ => nomatch h
/-- A cell that was there, of what nothing writes. -/
theorem St.old (HS : St W0 M W L) {p : Addr} {v : Value} (hM : ¬ M p.block) (h : W0.cell? p = some v) : W.cell? p = some v :=
  (World.cell?_of_block (HS.kept.block p.block (World.block_lt_of_cell? W0 p h) hM)).trans h
theorem St.old0 (HS : St W0 (owns []) W L) {p : Addr} {v : Value} (h : W0.cell? p = some v) : W.cell? p = some v := HS.old (owns_nil _) h
/-- Cells that are read. -/
def Rd (W : World) (A : Option Addr) (cs : List Value) : Prop := ∀ j v, cs[j]? = some v → ∃ ad, A = some ad ∧ W.cell? (ad.add j) = some v
theorem Rd.below {A : Option Addr} {cs : List Value} (h : Rd W A cs) (hb : Below W.heap.size W W') : Rd W' A cs := fun j v hv =>
  let ⟨ad, e, hc⟩ := h j v hv; ⟨ad, e, (hb.cell (World.block_lt_of_cell? W _ hc)).trans hc⟩
theorem Rd.old0 {A : Option Addr} {cs : List Value} (h : Rd W0 A cs) (HS : St W0 (owns []) W L) : Rd W A cs := fun j v hv =>
  let ⟨ad, e, hc⟩ := h j v hv; ⟨ad, e, HS.old0 hc⟩
theorem Rd.isSome_ {A : Option Addr} {cs : List Value} (h : Rd W A cs) (hn : 0 < cs.length) : ∃ ad, A = some ad := by
  obtain ⟨ad, e, _⟩ := h 0 _ (List.getElem?_eq_getElem hn); exact ⟨ad, e⟩
theorem Rd.at_ {ad : Addr} {cs : List Value} (h : Rd W (some ad) cs) {j : Nat} {v : Value} (hv : cs[j]? = some v) : W.cell? (ad.add j) = some v := by
  obtain ⟨_, e, hc⟩ := h j v hv; cases e; exact hc
theorem Rd.row (HS : St W0 M W L) {i n c t z : Nat} {A : Option Addr} {cs : List Value} (hi : L[i]? = some (row A n c cs t z)) : Rd W A cs := by
  rcases (HS.rowE hi).2 with ⟨e, h2⟩ | ⟨g, cap, cur, e, _⟩
  · intro j v hv
    have := (HS.rowE hi).1
    rw [h2, Nat.zero_mul] at this
    rw [List.eq_nil_of_length_eq_zero this] at hv; simp at hv
  · intro j v hv
    cases e
    exact ⟨_, rfl, (HS.rowE hi).cells rfl j v hv⟩
theorem Src.of_rd {A : Option Addr} {n c z : Nat} {cs : List Value} (h : Rd W A cs) (hl : cs.length = n * z) (hz : 0 < z) (hA : n = 0 → A = none ∨ ∃ ad, A = some ad) (h1 : ∀ u ∈ cs, u.oneCell' = true) : Src W (.slice A n c) n z cs := by
  refine ⟨⟨A, c, rfl, ?_⟩, hl, h1⟩
  cases A with
  | none =>
    left
    refine ⟨rfl, ?_⟩
    rcases Nat.eq_zero_or_pos n with h0 | h0
    · exact h0
    · obtain ⟨ad, e⟩ := h.isSome_ (by rw [hl]; exact Nat.mul_pos h0 hz); cases e
  | some ad => exact .inr ⟨ad, rfl, fun j u hu => h.at_ hu⟩
end
/-! rows of whole numbers -/
def ci (k : IntKind) (xs : List Int) : List Value := xs.map (Value.int k)
theorem ci_len (k : IntKind) (xs : List Int) : (ci k xs).length = xs.length := by simp [ci]
theorem ci_one {k : IntKind} {xs : List Int} : ∀ u ∈ ci k xs, u.oneCell' = true := by
  intro u hu; simp only [ci, List.mem_map] at hu; obtain ⟨x, _, rfl⟩ := hu; rfl
def rdI (xs : List Int) (i : Int) : Int := xs.getD i.toNat 0
theorem ci_rd {k : IntKind} {xs : List Int} {i : Int} (h0 : 0 ≤ i) (h1 : i < xs.length) : (ci k xs)[i.toNat]? = some (.int k (rdI xs i)) := by
  have h : i.toNat < xs.length := by omega
  simp [ci, rdI, h]
theorem ci_app (k : IntKind) (xs ys : List Int) : ci k (xs ++ ys) = ci k xs ++ ci k ys := by simp [ci]
/-! rows of structs -/
def cf {α : Type} (f : α → List Value) (xs : List α) : List Value := xs.flatMap f
theorem cf_len {α : Type} {f : α → List Value} {z : Nat} (hf : ∀ x, (f x).length = z) (xs : List α) : (cf f xs).length = xs.length * z := by
  induction xs with
  | nil => simp [cf]
  | cons x xs ih => simp only [cf, List.flatMap_cons, List.length_append, hf, List.length_cons]; have : (List.flatMap f xs).length = xs.length * z := ih; rw [this, Nat.add_mul]; omega
theorem cf_rd {α : Type} {f : α → List Value} {z : Nat} (hf : ∀ x, (f x).length = z) : ∀ (xs : List α) (i k : Nat) (x : α), xs[i]? = some x → k < z → (cf f xs)[i * z + k]? = (f x)[k]?
  | [], i, k, x, h, _ => by simp at h
  | y :: xs, 0, k, x, h, hk => by
    simp only [List.getElem?_cons_zero, Option.some.injEq] at h
    subst h
    show (f y ++ xs.flatMap f)[0 * z + k]? = _
    rw [Nat.zero_mul, Nat.zero_add, List.getElem?_append_left (by rw [hf]; exact hk)]
  | y :: xs, i + 1, k, x, h, hk => by
    simp only [List.getElem?_cons_succ] at h
    show (f y ++ xs.flatMap f)[(i + 1) * z + k]? = _
    rw [List.getElem?_append_right (by rw [hf, Nat.add_mul]; omega), hf, show (i + 1) * z + k - z = i * z + k by rw [Nat.add_mul]; omega]
    exact cf_rd hf xs i k x h hk
/-- What is owned, in another order. -/
theorem perm_ {L L' : List Ent} (is : List Nat) (hp : is.isPerm (List.range L.length) = true) (h : is.filterMap (L[·]?) = L') : L.Perm L' := by
  have h1 := (List.isPerm_iff.1 hp).filterMap (L[·]?)
  rw [h] at h1
  have h2 : (List.range L.length).filterMap (L[·]?) = L := by
    clear h1 h hp
    induction L with
    | nil => rfl
    | cons a L ih => rw [List.length_cons, List.range_succ_eq_map, List.filterMap_cons]; simp only [List.getElem?_cons_zero, List.filterMap_map]; congr 1
  rw [h2] at h1
  exact h1.symm
theorem add_add (a : Addr) (m k : Nat) : (a.add m).add k = a.add (m + k) := by
  unfold Addr.add
  by_cases hm : m = 0 <;> by_cases hk : k = 0 <;> simp [hm, hk, Nat.add_assoc]
section
variable {P : Program} {a : Act} {W W' W0 : World} {M : Nat → Prop} {L : List Ent} {d : Nat} {ty : TypeId} {ps : String} {af : Array Edge} {gd : Option (Nat × Bool)} {dst : Option Nat}
theorem R_indexA1 {t : TypeId} {x y : Operand} {p : Addr} {n c e : Nat} {k : IntKind} {i : Int} (hx : a.eval x = .slice (some p) n c) (hy : a.eval y = .int k i) (ht : P.underlying t = some (.slice e)) (hz : (P.info? e).map (·.size) = some 1) (h0 : 0 ≤ i) (h1 : i < n) :
    (execOp a.eval ⟨dst, .indexAddr t x y, ty, ps, af, gd⟩).run P W = .ok (.value (.pointer (some (p.add i.toNat)))) W := by
  rw [R_indexA hx hy ht hz h0 h1, Nat.mul_one]
/-- An element of a row of structs that is read. -/
theorem Rd.elem {α : Type} {f : α → List Value} {z : Nat} (hf : ∀ x, (f x).length = z) {ad : Addr} {xs : List α} (h : Rd W (some ad) (cf f xs)) {i : Nat} {x : α} (hx : xs[i]? = some x) : ∀ j v, (f x)[j]? = some v → W.cell? ((ad.add (i * z)).add j) = some v := by
  intro j v hv
  have hj : j < z := by rw [← hf x]; exact (List.getElem?_eq_some_iff.1 hv).1
  rw [add_add]
  exact h.at_ ((cf_rd hf xs i j x hx hj).trans hv)
/-- An element of one's own row of structs. -/
theorem St.elem (HS : St W0 M W L) {α : Type} {f : α → List Value} {z : Nat} (hf : ∀ x, (f x).length = z) {i g n c t : Nat} {xs : List α} (hi : L[i]? = some (row (some ⟨g, 0, none⟩) n c (cf f xs) t z)) {j : Nat} {x : α} (hx : xs[j]? = some x) : ∀ k v, (f x)[k]? = some v → W.cell? ((⟨g, j * z, none⟩ : Addr).add k) = some v := by
  intro k v hv
  have hk : k < z := by rw [← hf x]; exact (List.getElem?_eq_some_iff.1 hv).1
  rw [Addr.add_lit]
  exact HS.rcell hi ((cf_rd hf xs j k x hx hk).trans hv)
end
def gx {α : Type} [Inhabited α] (xs : List α) (i : Int) : α := xs.getD i.toNat default
theorem gx_eq {α : Type} [Inhabited α] {xs : List α} {i : Int} (h0 : 0 ≤ i) (h1 : i < xs.length) : xs[i.toNat]? = some (gx xs i) := by
  have h : i.toNat < xs.length := by omega
  simp [gx, h]
section
variable {P : Program} {ops : Array Oper} {Q : Exit → Act → World → Prop} {rest : List Oper} {l : List Value} {W W0 : World} {M : Nat → Prop} {L : List Ent} {d : Nat} {ty : TypeId} {ps : String} {af : Array Edge} {gd : Option (Nat × Bool)}
end
/-! results that lie in memory -/
section
variable {P : Program} {W W0 : World} {M : Nat → Prop} {L : List Ent} {tmps : Array Value} {fn : Func}
def oneRes (tmps : Array Value) : ResultVar → Sem Value
  | .tmp t => pure (tmps.getD t undef)
  | .cell a t => do loadVar t (← asAddr (tmps.getD a undef))
theorem results_eq : results fn tmps = (do let vs ← fn.results.mapM (oneRes tmps); pure (if h : vs.size = 1 then vs[0] else .tuple vs)) := by
  unfold results oneRes; rfl
theorem res2 {r1 r2 : ResultVar} {v1 v2 : Value} (h : fn.results = #[r1, r2]) (h1 : (oneRes tmps r1).run P W = .ok v1 W) (h2 : (oneRes tmps r2).run P W = .ok v2 W) : (results fn tmps).run P W = .ok (.tuple #[v1, v2]) W := by
  simp [results_eq, h, h1, h2]
theorem res3 {r1 r2 r3 : ResultVar} {v1 v2 v3 : Value} (h : fn.results = #[r1, r2, r3]) (h1 : (oneRes tmps r1).run P W = .ok v1 W) (h2 : (oneRes tmps r2).run P W = .ok v2 W) (h3 : (oneRes tmps r3).run P W = .ok v3 W) : (results fn tmps).run P W = .ok (.tuple #[v1, v2, v3]) W := by
  simp [results_eq, h, h1, h2, h3]
theorem oneRes_t {t : Nat} {v : Value} (h : tmps.getD t undef = v) : (oneRes tmps (.tmp t)).run P W = .ok v W := by
  simp only [oneRes, h]; rfl
theorem oneRes_agg {a : Nat} {t : TypeId} {p : Addr} (cs : List Value) (hp : tmps.getD a undef = .pointer (some p)) (hu : aggB P t = true) (hs : someB P t = true) (hn : (P.info? t).map (·.size) = some cs.length) (hc : ∀ j v, cs[j]? = some v → W.cell? (p.add j) = some v) : (oneRes tmps (.cell a t)).run P W = .ok (.agg cs.toArray) W := by
  simp only [oneRes, hp]
  simp [asAddr, loadVar, run_isAgg hu hs, run_sizeOf hn, run_loadCells_list W p cs hc]
/-- A whole block, read. -/
theorem St.cellsN (HS : St W0 M W L) {i g t : Nat} {cs : List Value} (hi : L[i]? = some (blk g cs t)) : ∀ j v, cs[j]? = some v → W.cell? ((⟨g, 0, none⟩ : Addr).add j) = some v := fun j v hv => by
  rw [Addr.add_lit, Nat.zero_add]; exact HS.cell hi hv
theorem Src.of_rd' {A : Option Addr} {n c z : Nat} {cs : List Value} (h : Rd W A cs) (hl : cs.length = n * z) (hz : 0 < z) (h1 : ∀ u ∈ cs, u.oneCell' = true) : Src W (.slice A n c) n z cs :=
  Src.of_rd h hl hz (fun _ => by cases A; exact .inl rfl; exact .inr ⟨_, rfl⟩) h1
end
section
variable {P : Program} {ops : Array Oper} {Q : Exit → Act → World → Prop} {rest : List Oper} {l : List Value} {W W0 : World} {M : Nat → Prop} {L : List Ent} {d : Nat} {ty : TypeId} {ps : String} {af : Array Edge} {gd : Option (Nat × Bool)}
/-- append, what comes of it told in words of one's own. -/
theorem ka1 {t e : TypeId} {s x : Operand} (HS : St W0 M W L) (i : Nat) {n c z m : Nat} {A : Option Addr} {cs news : List Value} {xv : Value} (hi : L[i]? = some (row A n c cs e z)) (hsrc : Src W xv m z news) (zs : List Value) (by_ n' : Nat) (cs' : List Value) (hn : n + m = n') (hcs : cs ++ news = cs')
    (hw : Region.wanted ⟨some d, .call { callee := .builtin .append, args := #[s, x], argTypes := #[t, t] }, ty, ps, af, gd⟩ (yielded ops (Fr l).tmps) = true)
    (hs : (Fr l).eval s = .slice A n c) (hx : (Fr l).eval x = xv)
    (ht : P.underlying t = some (.slice e)) (hz : ((P.info? e).bind (·.zero)).map (·.cells) = some zs.toArray) (hzl : zs.length = z) (hsz : (P.info? e).map (·.size) = some z) (hb : (P.info? e).map (·.bytes) = some by_) (h0 : 0 < z) (h63 : n' ≤ 140737488355327) (hbytes : n' * by_ ≤ 140737488355328)
    (h : ∀ A' c' W', St W0 M W' (L.set i (row A' n' c' cs' e z)) → wpList P ops Q rest (Fr (l.set d (.slice A' n' c'))) W') :
    wpList P ops Q (⟨some d, .call { callee := .builtin .append, args := #[s, x], argTypes := #[t, t] }, ty, ps, af, gd⟩ :: rest) (Fr l) W := by
  subst hn; subst hcs
  exact ka HS i hi hsrc zs by_ hw hs hx ht hz hzl hsz hb h0 h63 hbytes h
end
attribute [irreducible] rdI gx ci cf
/-! ### drawn regions with what makes memory among what reads -/
section
variable {P : Program} {ops : Array Oper} {Q : Exit → Act → World → Prop} {l : List Value} {N : Nat → Prop} {V W W' W0 : World} {M : Nat → Prop} {L : List Ent} {op : Op} {d : Nat} {ty : TypeId} {ps : String} {af : Array Edge} {gd : Option (Nat × Bool)} {dst : Option Nat} {n : Nat} {ls : Array Bool}
def TA (P : Program) (ops : Array Oper) (Q : Exit → Act → World → Prop) (N : Nat → Prop) (V : World) (n : Nat) (ls : Array Bool) (a : Act) (w : World) : Prop := wpAnyH P .any ops Q (fun w' => Kpt N V w') n ls a w
theorem Kpt.cell (h : Kpt (fun _ => False) V W) {p : Addr} {v : Value} (hc : V.cell? p = some v) : W.cell? p = some v :=
  (World.cell?_of_block (h.block p.block (World.block_lt_of_cell? V p hc) (fun f => f))).trans hc
theorem Kpt.cells (h : Kpt (fun _ => False) V W) {p : Addr} {cs : List Value} (hc : ∀ j v, cs[j]? = some v → V.cell? (p.add j) = some v) : ∀ j v, cs[j]? = some v → W.cell? (p.add j) = some v := fun j v hv => h.cell (hc j v hv)
theorem Kpt.tr (h : Kpt N V W) (k : Kpt (fun _ => False) W W') : Kpt N V W' := h.trans k (fun _ f => f.elim)
theorem Kpt.cellN (h : Kpt N V W) {p : Addr} {v : Value} (hn : ¬ N p.block) (hc : V.cell? p = some v) : W.cell? p = some v :=
  (World.cell?_of_block (h.block p.block (World.block_lt_of_cell? V p hc) hn)).trans hc
theorem St.sepB (HS : St W0 M V L) {a b g t : Nat} {cs : List Value} {e : Ent} (hab : a ≠ b) (ha : L[a]? = some (blk g cs t)) (hb : L[b]? = some e) : ¬ e.own g := by
  have hne := List.pairwise_iff_getElem.1 HS.ne
  obtain ⟨h1, e1⟩ := List.getElem?_eq_some_iff.1 ha
  obtain ⟨h2, e2⟩ := List.getElem?_eq_some_iff.1 hb
  intro ho
  rcases Nat.lt_or_gt_of_ne hab with h | h
  · exact hne a b h1 h2 h g (by rw [e1]; rfl) (by rw [e2]; exact ho)
  · exact hne b a h2 h1 h g (by rw [e2]; exact ho) (by rw [e1]; rfl)
theorem t_start {id : Nat} {ol : List Oper} (HS : St W0 M W L) (N : Nat → Prop) (n : Nat) (hm : P.follows .mixedOrders = true) (hn : ol.toArray.size = n)
    (h : ∀ V, St W0 M V L → Kpt (fun _ => False) W V → TA P ol.toArray Q N V n (Array.replicate n false) (Fr l) V) : (Code.region id ol.toArray true).wp P Q (Fr l) W := by
  subst hn
  exact wp_region_held hm (h _ (HS.drew _) (.drew _ _))
theorem t_q (i : Nat) (v : Value) (hi : ops[i]? = some ⟨some d, op, ty, ps, af, gd⟩) (hc : (Region.noSelect ops && Region.free .any ops ls i && (Region.ready .any ops ls).contains i) = true)
    (hw : Region.wanted ⟨some d, op, ty, ps, af, gd⟩ (yielded ops (Fr l).tmps) = true) (hQ : ∀ c a w, Q (.panic c) (a.put (some d) v) w → Q (.panic c) a w)
    (hr : ∀ w', Kpt N V w' → (execOp (Fr l).eval ⟨some d, op, ty, ps, af, gd⟩).run P w' = .ok (.value v) w') (hk : Kpt N V W)
    (h : TA P ops Q N V n (ls.setIfInBounds i true) (Fr (l.set d v)) W) : TA P ops Q N V (n + 1) ls (Fr l) W := by
  simp only [Bool.and_eq_true] at hc
  refine wpAnyH_take hi hc.1.1 hc.1.2 hc.2 hQ (.inl ⟨hw, fun w' hk' => hr w' hk'⟩) hk ?_
  show wpAnyH _ _ _ _ _ _ _ ((Fr l).put (some d) v) _
  rw [Fr_put]; exact h
theorem t_one (i : Nat) (hr : Region.ready .any ops ls = [i]) (h : wpOp P ops Q i (fun a' w' => Kpt N V w' ∧ TA P ops Q N V n (ls.setIfInBounds i true) a' w') (Fr l) W) : TA P ops Q N V (n + 1) ls (Fr l) W :=
  wpAnyH_all hr (by simp) (fun j hj => by rw [List.mem_singleton] at hj; subst hj; exact h)
/-- What is alone: it gives a value. -/
theorem t_e (i : Nat) (v : Value) (hi : ops[i]? = some ⟨some d, op, ty, ps, af, gd⟩) (hr : Region.ready .any ops ls = [i]) (hw : Region.wanted ⟨some d, op, ty, ps, af, gd⟩ (yielded ops (Fr l).tmps) = true)
    (hrun : (execOp (Fr l).eval ⟨some d, op, ty, ps, af, gd⟩).run P W = .ok (.value v) W') (hk : Kpt N V W') (h : TA P ops Q N V n (ls.setIfInBounds i true) (Fr (l.set d v)) W') : TA P ops Q N V (n + 1) ls (Fr l) W := by
  refine t_one i hr ?_
  unfold wpOp; rw [hi]; simp only; rw [if_pos hw]
  left; unfold Oper.wp; rw [hrun]
  exact ⟨hk, (Fr_put l d v) ▸ h⟩
theorem t_c (i : Nat) {f : FuncId} {args : Array Value} (hi : ops[i]? = some ⟨some d, op, ty, ps, af, gd⟩) (hr : Region.ready .any ops ls = [i]) (hw : Region.wanted ⟨some d, op, ty, ps, af, gd⟩ (yielded ops (Fr l).tmps) = true)
    (hrun : (execOp (Fr l).eval ⟨some d, op, ty, ps, af, gd⟩).run P W = .ok (.enter f args) W) (h : Calls P f args W fun e w' => ∃ v, e = .returned v ∧ Kpt N V w' ∧ TA P ops Q N V n (ls.setIfInBounds i true) (Fr (l.set d v)) w') : TA P ops Q N V (n + 1) ls (Fr l) W := by
  refine t_one i hr ?_
  unfold wpOp; rw [hi]; simp only; rw [if_pos hw]
  left; unfold Oper.wp; rw [hrun]
  refine h.mono ?_
  rintro e w' ⟨v, rfl, hk, hv⟩
  exact ⟨hk, (Fr_put l d v) ▸ hv⟩
/-- One of two that may come up. -/
theorem t_pick2 (i j : Nat) (hr : Region.ready .any ops ls = [i, j]) (hi : wpOp P ops Q i (fun a' w' => Kpt N V w' ∧ TA P ops Q N V n (ls.setIfInBounds i true) a' w') (Fr l) W) (hj : wpOp P ops Q j (fun a' w' => Kpt N V w' ∧ TA P ops Q N V n (ls.setIfInBounds j true) a' w') (Fr l) W) : TA P ops Q N V (n + 1) ls (Fr l) W :=
  wpAnyH_all hr (by simp) (fun k hk => by
    rcases List.mem_cons.1 hk with rfl | hk
    · exact hi
    · rw [List.mem_singleton] at hk; subst hk; exact hj)
theorem t_e2 (i : Nat) (v : Value) (hi : ops[i]? = some ⟨some d, op, ty, ps, af, gd⟩) (hw : Region.wanted ⟨some d, op, ty, ps, af, gd⟩ (yielded ops (Fr l).tmps) = true)
    (hrun : (execOp (Fr l).eval ⟨some d, op, ty, ps, af, gd⟩).run P W = .ok (.value v) W') (hk : Kpt N V W') (h : TA P ops Q N V n (ls.setIfInBounds i true) (Fr (l.set d v)) W') : wpOp P ops Q i (fun a' w' => Kpt N V w' ∧ TA P ops Q N V n (ls.setIfInBounds i true) a' w') (Fr l) W := by
  unfold wpOp; rw [hi]; simp only; rw [if_pos hw]
  left; unfold Oper.wp; rw [hrun]
  exact ⟨hk, (Fr_put l d v) ▸ h⟩
/-- A store. -/
theorem t_s (i : Nat) (hi : ops[i]? = some ⟨none, op, ty, ps, af, gd⟩) (hr : Region.ready .any ops ls = [i]) (hw : Region.wanted ⟨none, op, ty, ps, af, gd⟩ (yielded ops (Fr l).tmps) = true)
    (hrun : (execOp (Fr l).eval ⟨none, op, ty, ps, af, gd⟩).run P W = .ok .skip W') (hk : Kpt N V W') (h : TA P ops Q N V n (ls.setIfInBounds i true) (Fr l) W') : TA P ops Q N V (n + 1) ls (Fr l) W := by
  refine t_one i hr ?_
  unfold wpOp; rw [hi]; simp only; rw [if_pos hw]
  left; unfold Oper.wp; rw [hrun]
  exact ⟨hk, h⟩
theorem ex_ks {t : TypeId} {x y : Operand} {v : Value} (HS : St W0 M W L) (i : Nat) {g tb : Nat} {cs : List Value} (hi : L[i]? = some (blk g cs tb)) (j : Nat) (news : List Value)
    (hx : (Fr l).eval x = .pointer (some ⟨g, j, none⟩)) (hy : (Fr l).eval y = v) (hv : v.cells = news.toArray) (hn : (P.info? t).map (·.size) = some news.length) (h1 : ∀ u ∈ news, u.oneCell' = true) (hfit : j + news.length ≤ cs.length) :
    ∃ W', (execOp (Fr l).eval ⟨none, .store t x y, ty, ps, af, gd⟩).run P W = .ok .skip W' ∧ St W0 M W' (L.set i (blk g (splice cs j news) tb)) ∧ Kpt (fun k => k = g) W W' :=
  ⟨_, R_store news (HS.blkE hi) hx hy hv hn h1 hfit, HS.setBlk hi, .setRow _ _ _ rfl⟩
theorem blk_own {g t k : Nat} {cs : List Value} (h : k = g) : (blk g cs t).own k := h
theorem t_done (hr : Region.ready .any ops ls = []) (h : Q .normal (Fr l) W) : TA P ops Q N V n ls (Fr l) W := wpAnyH_done hr h n
theorem ex_blk (HS : St W0 M W L) (cs : List Value) (t : Nat) : ∃ g W', g = W.heap.size ∧ W' = W.alloc (.cells cs.toArray t) ∧ St W0 M W' (blk g cs t :: L) ∧ Kpt (fun _ => False) W W' := ⟨_, _, rfl, rfl, HS.newBlk cs t, .alloc _ _⟩
theorem ex_lit (HS : St W0 M W L) (n : Nat) (cs : List Value) (t z : Nat) (h1 : cs.length = n * z) (h2 : n ≤ 140737488355327) : ∃ g W', g = W.heap.size ∧ W' = W.alloc (.cells cs.toArray t) ∧ St W0 M W' (row (some ⟨g, 0, none⟩) n n cs t z :: L) ∧ Kpt (fun _ => False) W W' :=
  ⟨_, _, rfl, rfl, HS.newRow n n cs cs t z h1 h1 (Nat.le_refl _) (by unfold maxLen; omega) (List.take_of_length_le (by omega)), .alloc _ _⟩
end
theorem Kpt.nil {a b : World} (h : Kpt (owns []) a b) : Kpt (fun _ => False) a b := ⟨h.os, h.tape, h.output, h.size, fun k hk _ => h.block k hk (owns_nil k)⟩
section
variable {P : Program} {l : List Value} {W W0 : World} {M : Nat → Prop} {L : List Ent} {ty : TypeId} {ps : String} {af : Array Edge} {gd : Option (Nat × Bool)} {dst : Option Nat}
theorem ex_append {t e : TypeId} {s x : Operand} (HS : St W0 M W L) (i : Nat) {n c z m : Nat} {A : Option Addr} {cs news : List Value} {xv : Value} (hi : L[i]? = some (row A n c cs e z)) (hsrc : Src W xv m z news) (zs : List Value) (by_ n' : Nat) (cs' : List Value) (hn : n + m = n') (hcs : cs ++ news = cs')
    (hs : (Fr l).eval s = .slice A n c) (hx : (Fr l).eval x = xv)
    (ht : P.underlying t = some (.slice e)) (hz : ((P.info? e).bind (·.zero)).map (·.cells) = some zs.toArray) (hzl : zs.length = z) (hsz : (P.info? e).map (·.size) = some z) (hb : (P.info? e).map (·.bytes) = some by_) (h0 : 0 < z) (h63 : n' ≤ 140737488355327) (hbytes : n' * by_ ≤ 140737488355328) :
    ∃ A' c' W', (execOp (Fr l).eval ⟨dst, .call { callee := .builtin .append, args := #[s, x], argTypes := #[t, t] }, ty, ps, af, gd⟩).run P W = .ok (.value (.slice A' n' c')) W' ∧ St W0 M W' (L.set i (row A' n' c' cs' e z)) ∧ Kpt (row A n c cs e z).own W W' := by
  subst hn; subst hcs
  obtain ⟨A', c', W', hrun, HS', hk⟩ := append_own (ty' := ty) HS hi zs by_ hsrc ht hz hzl hsz hb h0 h63 hbytes
  exact ⟨A', c', W', R_append hs hx hrun, HS', hk⟩
end
/-! ### maps of whole numbers -/
section
variable {P : Program} {ops : Array Oper} {Q : Exit → Act → World → Prop} {R : Act → Prop} {rest : List Oper} {a : Act} {l : List Value} {W W' W0 : World} {M : Nat → Prop} {L : List Ent} {v : Value} {op : Op} {d : Nat} {ty : TypeId} {ps : String} {af : Array Edge} {gd : Option (Nat × Bool)} {dst : Option Nat}
end
/-! ### pieces of rows, copies, remainders -/
theorem add_add_ (a : Addr) (m n : Nat) : (a.add m).add n = a.add (m + n) := by
  unfold Addr.add
  by_cases h : m = 0 <;> by_cases h2 : n = 0 <;> simp_all [Nat.add_assoc]
section
variable {P : Program} {ops : Array Oper} {Q : Exit → Act → World → Prop} {R : Act → Prop} {rest : List Oper} {a : Act} {l : List Value} {W W' W0 : World} {M : Nat → Prop} {L : List Ent} {v : Value} {op : Op} {d : Nat} {ty : TypeId} {ps : String} {af : Array Edge} {gd : Option (Nat × Bool)} {dst : Option Nat}
theorem Src.tail {A : Option Addr} {n c m : Nat} {cs : List Value} (h : Src W (.slice A n c) n 1 cs) (hm : m ≤ n) (hc : n ≤ c) : Src W (.slice (cutA A c m 1) (n - m) (c - m)) (n - m) 1 (cs.drop m) := by
  have hl := h.len
  refine ⟨?_, by rw [List.length_drop]; omega, fun u hu => h.one u (List.mem_of_mem_drop hu)⟩
  obtain ⟨B, c', e, hB⟩ := h.val
  cases e
  refine ⟨_, _, rfl, ?_⟩
  rcases hB with ⟨e, h0⟩ | ⟨ad, e, hc2⟩
  · exact .inl ⟨by unfold cutA; rw [e]; split <;> rfl, by omega⟩
  · subst e
    unfold cutA
    by_cases hcm : c = m
    · rw [if_pos hcm]
      refine .inr ⟨ad, rfl, fun j u hu => ?_⟩
      rw [List.getElem?_eq_none (by rw [List.length_drop]; omega)] at hu; cases hu
    · rw [if_neg hcm]
      refine .inr ⟨_, rfl, fun j u hu => ?_⟩
      rw [List.getElem?_drop] at hu
      rw [Nat.mul_one, add_add_]
      exact hc2 _ u hu
end
/-! ### a ring of whole numbers -/
def ring (bs : List Int) (f n : Nat) : List Int := (List.range n).map fun i => bs.getD ((f + i) % bs.length) 0
structure RQ (bs : List Int) (f n : Nat) (xs : List Int) : Prop where
  hn : n ≤ bs.length
  hf : 0 < bs.length → f < bs.length
  h0 : bs.length = 0 → f = 0
  hb : bs.length ≤ 4398046511104
  hx : xs = ring bs f n
theorem RQ.len {bs xs : List Int} {f n : Nat} (h : RQ bs f n xs) : xs.length = n := by rw [h.hx]; unfold ring; simp
theorem RQ.nil : RQ [] 0 0 [] := ⟨Nat.le_refl _, fun h => by simp at h, fun _ => rfl, by simp, rfl⟩
theorem ci_drop {k : IntKind} {xs : List Int} {m : Nat} : (ci k xs).drop m = ci k (xs.drop m) := by simp [ci, List.map_drop]
section
variable {P : Program} {a : Act} {W : World} {dst : Option Nat} {ty : TypeId} {ps : String} {af : Array Edge} {gd : Option (Nat × Bool)}
end
/-! ### a ringS of whole numbers -/
def ringS (bs : List ByteArray) (f n : Nat) : List ByteArray := (List.range n).map fun i => bs.getD ((f + i) % bs.length) ByteArray.empty
structure RQS (bs : List ByteArray) (f n : Nat) (xs : List ByteArray) : Prop where
  hn : n ≤ bs.length
  hf : 0 < bs.length → f < bs.length
  h0 : bs.length = 0 → f = 0
  hb : bs.length ≤ 4398046511104
  hx : xs = ringS bs f n
theorem RQS.len {bs xs : List ByteArray} {f n : Nat} (h : RQS bs f n xs) : xs.length = n := by rw [h.hx]; unfold ringS; simp
theorem RQS.nil : RQS [] 0 0 [] := ⟨Nat.le_refl _, fun h => by simp at h, fun _ => rfl, by simp, rfl⟩
/-! ### a map or none; what is only read, of a block of its own -/
/-- What is only read: cells from a place on; the place's block is one's own. -/
def rde (A : Option Addr) (cs : List Value) : Ent :=
  ⟨fun k => ∃ ad, A = some ad ∧ ad.block = k, fun W => Rd W A cs, fun W W' h hp j v hv => by
    obtain ⟨ad, e, hc⟩ := hp j v hv
    have hb : (ad.add j).block = ad.block := by unfold Addr.add; split <;> rfl
    exact ⟨ad, e, (World.cell?_of_block (by rw [hb]; exact h _ ⟨ad, e, rfl⟩)).trans hc⟩⟩
theorem St.to_rde {W0 W : World} {M : Nat → Prop} {L : List Ent} {i n c t z : Nat} {A : Option Addr} {cs : List Value} (HS : St W0 M W L) (hi : L[i]? = some (row A n c cs t z)) : St W0 M W (L.set i (rde A cs)) :=
  HS.turn hi (fun _ => Rd.row HS hi) (fun k ⟨ad, e, hk⟩ => by
    rcases (HS.rowE hi).2 with ⟨h, _⟩ | ⟨g, cap, cur, h, _⟩
    · cases h; cases e
    · cases h; cases e; exact congrArg some hk)
theorem St.rde_sub {W0 W : World} {M : Nat → Prop} {L : List Ent} {i : Nat} {A B : Option Addr} {cs ds : List Value} (HS : St W0 M W L) (hi : L[i]? = some (rde A cs)) (h : Rd W A cs → Rd W B ds) (ho : ∀ ad, B = some ad → ∃ ad', A = some ad' ∧ ad'.block = ad.block) : St W0 M W (L.set i (rde B ds)) :=
  HS.turn hi h (fun k ⟨ad, e, hk⟩ => by obtain ⟨ad', e', hb⟩ := ho ad e; exact ⟨ad', e', hb.trans hk⟩)
theorem cutA_own {A : Option Addr} {N k z : Nat} : ∀ ad, cutA A N k z = some ad → ∃ ad', A = some ad' ∧ ad'.block = ad.block := by
  intro ad h
  unfold cutA at h
  split at h
  · exact ⟨ad, h, rfl⟩
  · obtain ⟨ad', e, h2⟩ := Option.map_eq_some_iff.1 h
    exact ⟨ad', e, by rw [← h2]; unfold Addr.add; split <;> rfl⟩
theorem rd_cut {W : World} {A : Option Addr} {c m : Nat} {cs : List Value} (h : Rd W A cs) (hm : m ≤ c) (hl : cs.length ≤ c) : Rd W (cutA A c m 1) (cs.drop m) := by
  intro j v hv
  have hlt := (List.getElem?_eq_some_iff.1 hv).1
  rw [List.length_drop] at hlt
  rw [List.getElem?_drop] at hv
  obtain ⟨ad, e, hc⟩ := h _ v hv
  unfold cutA
  rw [if_neg (by omega), e]
  exact ⟨_, rfl, by rw [Nat.mul_one, add_add_]; exact hc⟩
/-- Read from elsewhere: whatever is done within M. -/
def RdF (M : Nat → Prop) (W : World) (B : Option Addr) (cs : List Value) : Prop := ∀ W2 L2, St W M W2 L2 → Rd W2 B cs
theorem RdF.old0 {M : Nat → Prop} {W W2 : World} {L2 : List Ent} {B : Option Addr} {cs : List Value} (h : RdF M W B cs) (HS : St W M W2 L2) : Rd W2 B cs := h W2 L2 HS
theorem RdF.of_row {W0 W : World} {M : Nat → Prop} {F L : List Ent} {i n c t z : Nat} {B : Option Addr} {cs : List Value} (HS : St W0 M W (F ++ L)) (hi : L[i]? = some (row B n c cs t z)) : RdF (owns F) W B cs := fun W2 L2 H2 j v hv => by
  have hm := List.mem_of_getElem? hi
  obtain ⟨ad, e, hc⟩ := Rd.row HS (i := F.length + i) (by rw [List.getElem?_append_right (by omega), Nat.add_sub_cancel_left]; exact hi) j v hv
  refine ⟨ad, e, H2.kept.cellN (fun ⟨f, hf, ho⟩ => ?_) hc⟩
  have hne := (List.pairwise_append.1 HS.ne).2.2 f hf _ hm _ ho
  apply hne
  have hb : (ad.add j).block = ad.block := by unfold Addr.add; split <;> rfl
  rw [hb]
  rcases (HS.has _ (List.mem_append_right _ hm)).1.2 with ⟨h9, _⟩ | ⟨g, cap, cur, h9, _⟩
  · cases h9; cases e
  · cases h9; cases e; rfl
section
variable {P : Program} {ops : Array Oper} {Q : Exit → Act → World → Prop} {N : Nat → Prop} {l : List Value} {V W W' : World} {op : Op} {ty : TypeId} {ps : String} {af : Array Edge} {gd : Option (Nat × Bool)} {n : Nat} {ls : Array Bool}
theorem t_pick3 (i j k : Nat) (hr : Region.ready .any ops ls = [i, j, k]) (hi : wpOp P ops Q i (fun a' w' => Kpt N V w' ∧ TA P ops Q N V n (ls.setIfInBounds i true) a' w') (Fr l) W) (hj : wpOp P ops Q j (fun a' w' => Kpt N V w' ∧ TA P ops Q N V n (ls.setIfInBounds j true) a' w') (Fr l) W) (hk : wpOp P ops Q k (fun a' w' => Kpt N V w' ∧ TA P ops Q N V n (ls.setIfInBounds k true) a' w') (Fr l) W) : TA P ops Q N V (n + 1) ls (Fr l) W :=
  wpAnyH_all hr (by simp) (fun m hm => by
    rcases List.mem_cons.1 hm with rfl | hm
    · exact hi
    · rcases List.mem_cons.1 hm with rfl | hm
      · exact hj
      · rw [List.mem_singleton] at hm; subst hm; exact hk)
theorem t_c2 {d : Nat} (i : Nat) {f : FuncId} {args : Array Value} (hi : ops[i]? = some ⟨some d, op, ty, ps, af, gd⟩) (hw : Region.wanted ⟨some d, op, ty, ps, af, gd⟩ (yielded ops (Fr l).tmps) = true)
    (hrun : (execOp (Fr l).eval ⟨some d, op, ty, ps, af, gd⟩).run P W = .ok (.enter f args) W) (h : Calls P f args W fun e w' => ∃ v, e = .returned v ∧ Kpt N V w' ∧ TA P ops Q N V n (ls.setIfInBounds i true) (Fr (l.set d v)) w') : wpOp P ops Q i (fun a' w' => Kpt N V w' ∧ TA P ops Q N V n (ls.setIfInBounds i true) a' w') (Fr l) W := by
  unfold wpOp; rw [hi]; simp only; rw [if_pos hw]
  left; unfold Oper.wp; rw [hrun]
  refine h.mono ?_
  rintro e w' ⟨v, rfl, hk, hv⟩
  exact ⟨hk, (Fr_put l d v) ▸ hv⟩
end
theorem St.oldSep {W0 V : World} {L : List Ent} (HS : St W0 (owns []) V L) {i : Nat} {e : Ent} (hi : L[i]? = some e) {p : Addr} {v : Value} (hc : W0.cell? p = some v) : ¬ e.own p.block := fun ho => by
  have h1 := ((HS.has e (List.mem_of_getElem? hi)).2 _ ho).2
  have h2 := World.block_lt_of_cell? W0 p hc
  exact h1.elim (owns_nil _) (fun h3 => by omega)
/-! ### channels, in one goroutine -/
def chn (c cap : Nat) (buf : List Value) : Ent := ⟨fun k => k = c, fun W => ∃ s r, W.heap[c]? = some (.chan cap buf.toArray false s r false), fun W W' h ⟨s, r, p⟩ => ⟨s, r, (h c rfl).trans p⟩⟩
theorem Kpt.setChan {M : Nat → Prop} (w : World) (c cap : Nat) (buf : Array Value) (cl : Bool) (s r : Nat) (tm : Bool) (hM : M c) : Kpt M w (w.setChan c cap buf cl s r tm) :=
  ⟨rfl, rfl, rfl, by simp [World.setChan], fun k hk hm => by simp only [World.setChan]; rw [Array.getElem?_setIfInBounds_ne (fun e => hm (by subst e; exact hM))]⟩
theorem St.setChan {W0 W : World} {M : Nat → Prop} {L : List Ent} {i c cap : Nat} {buf : List Value} (HS : St W0 M W L) (hi : L[i]? = some (chn c cap buf)) (buf' : List Value) (s r : Nat) : St W0 M (W.setChan c cap buf'.toArray false s r false) (L.set i (chn c cap buf')) := by
  have hlt := HS.lt hi (k := c) rfl
  exact HS.upd hi (.setChan _ _ _ _ _ _ _ _ rfl) ⟨s, r, Conc.heap_setChan W c cap buf'.toArray false s r false hlt⟩ (fun k hk => ⟨.inl hk, by have : k = c := hk; subst this; rw [Conc.size_setChan]; exact hlt⟩)
theorem chn_k {c cap : Nat} {buf : List Value} {V W' : World} (hk : Kpt (fun _ => False) V W') (h : (chn c cap buf).P V) : (chn c cap buf).P W' := by
  obtain ⟨s, r, p⟩ := h
  exact ⟨s, r, (hk.block c (Array.getElem?_eq_some_iff.1 p).1 (fun f => f)).trans p⟩
section
variable {P : Program} {ops : Array Oper} {Q : Exit → Act → World → Prop} {R : Act → Prop} {rest : List Oper} {a : Act} {l : List Value} {W W' W0 : World} {M : Nat → Prop} {L : List Ent} {v : Value} {op : Op} {d : Nat} {ty : TypeId} {ps : String} {af : Array Edge} {gd : Option (Nat × Bool)} {dst : Option Nat}
theorem run_mkc {t e : TypeId} {dir : ChanDir} {n b : Nat} (ht : P.underlying t = some (.chan dir e)) (hb : (P.info? e).map (·.bytes) = some b) (hn : n ≤ 1048576) (hb2 : b ≤ 1024) : (Instr.makeChan t (.int .i64 n)).run P W = .ok (.chan (some W.heap.size)) (W.alloc (.chan n #[] false 0 0 false)) := by
  obtain ⟨i, hi, hb'⟩ := Option.map_eq_some_iff.1 hb
  refine Conc.run_makeChan (P := P) (w := W) ht hi .i64 n (by omega) ?_
  rw [hb', ← Int.natCast_mul]
  have h2 : b * n ≤ 1024 * 1048576 := Nat.mul_le_mul hb2 hn
  omega
theorem chn_new (HS : St W0 M W L) (n : Nat) : St W0 M (W.alloc (.chan n #[] false 0 0 false)) (chn W.heap.size n [] :: L) :=
  HS.new (.alloc _ _) ⟨0, 0, heap_alloc_new _ _⟩ (fun k hk => by have : k = W.heap.size := hk; subst this; exact ⟨Nat.le_refl _, by simp⟩)
theorem kmc {t e : TypeId} {dir : ChanDir} {x : Operand} {b : Nat} (HS : St W0 M W L) (n : Nat) (hw : Region.wanted ⟨some d, .makeChan t x, ty, ps, af, gd⟩ (yielded ops (Fr l).tmps) = true) (hx : (Fr l).eval x = .int .i64 (n : Int)) (ht : P.underlying t = some (.chan dir e)) (hb : (P.info? e).map (·.bytes) = some b) (hn : n ≤ 1048576) (hb2 : b ≤ 1024)
    (h : ∀ c W', St W0 M W' (chn c n [] :: L) → wpList P ops Q rest (Fr (l.set d (.chan (some c)))) W') : wpList P ops Q (⟨some d, .makeChan t x, ty, ps, af, gd⟩ :: rest) (Fr l) W := by
  have hr := run_mkc (W := W) ht hb hn hb2
  refine qw (W' := W.alloc (.chan n #[] false 0 0 false)) (.chan (some W.heap.size)) hw (by simp [execOp, hx, hr]) (h _ _ (chn_new HS n))
theorem R_lenC {t : TypeId} {e : TypeId} {dir : ChanDir} {x : Operand} {c cap : Nat} {buf : List Value} (hc : (chn c cap buf).P W) (hx : a.eval x = .chan (some c)) (ht : P.underlying t = some (.chan dir e)) : (execOp a.eval ⟨dst, .call { callee := .builtin .len, args := #[x], argTypes := #[t] }, ty, ps, af, gd⟩).run P W = .ok (.value (.int .i64 (buf.length : Int))) W := by
  obtain ⟨s, r, hp⟩ := hc
  have := Conc.run_len_chan (P := P) (w := W) t ty ht hp
  simp [execOp, resolve, invoke, builtin, hx, this, goInt]
theorem R_capC {t : TypeId} {e : TypeId} {dir : ChanDir} {x : Operand} {c cap : Nat} {buf : List Value} (hc : (chn c cap buf).P W) (hx : a.eval x = .chan (some c)) (ht : P.underlying t = some (.chan dir e)) : (execOp a.eval ⟨dst, .call { callee := .builtin .cap, args := #[x], argTypes := #[t] }, ty, ps, af, gd⟩).run P W = .ok (.value (.int .i64 (cap : Int))) W := by
  obtain ⟨s, r, hp⟩ := hc
  have := Conc.run_cap_chan (P := P) (w := W) t ty ht hp
  simp [execOp, resolve, invoke, builtin, hx, this, goInt]
theorem equalIn_pne {w : World} {d : Nat} {t e : TypeId} {j : TypeInfo} {x y : Addr} (ht : P.underlying t = some (.pointer e)) (hj : P.info? e = some j) (hsz : j.size ≠ 0) (h1 : (sameAddr x y).run P w = .ok false w) : (Op.equalIn (d + 1) t (.pointer (some x)) (.pointer (some y))).run P w = .ok false w := by
  simp [Op.equalIn, run_underlying ht, sizeOf, typeInfo, hj, hsz, h1]
theorem R_pneq {t t2 e : TypeId} {z : Nat} {x y : Operand} {g h i k ta tb : Nat} {cs ds : List Value} (HS : St W0 M W L) (hab : i ≠ k) (ha : L[i]? = some (blk g cs ta)) (hb : L[k]? = some (blk h ds tb)) (hx : a.eval x = .pointer (some ⟨g, 0, none⟩)) (hy : a.eval y = .pointer (some ⟨h, 0, none⟩)) (ht : P.underlying t = some (.pointer e)) (hz : (P.info? e).map (·.size) = some z) (hsz : z ≠ 0) : (execOp a.eval ⟨dst, .binOp .neq t x y t2, ty, ps, af, gd⟩).run P W = .ok (.value (.bool true)) W := by
  obtain ⟨j, hj, rfl⟩ := Option.map_eq_some_iff.1 hz
  have hgh : g ≠ h := fun e => HS.sepB hab ha hb (show g = h from e)
  have hne : (⟨g, 0, none⟩ : Addr) ≠ ⟨h, 0, none⟩ := fun e => hgh (by injection e)
  have h1 := run_sameAddr_other (P := P) W hne (HS.get ha) (HS.get hb)
  have h2 : (Op.equal t (.pointer (some ⟨g, 0, none⟩)) (.pointer (some ⟨h, 0, none⟩))).run P W = .ok false W := equalIn_pne (d := 9999) ht hj hsz h1
  simp [execOp, hx, hy, eqGuard, binOp, h2]
theorem equalIn_peq {w : World} {d : Nat} {t e : TypeId} {j : TypeInfo} {x : Addr} (ht : P.underlying t = some (.pointer e)) (hj : P.info? e = some j) (hsz : j.size ≠ 0) : (Op.equalIn (d + 1) t (.pointer (some x)) (.pointer (some x))).run P w = .ok true w := by
  simp [Op.equalIn, run_underlying ht, sizeOf, typeInfo, hj, hsz, run_sameAddr_same]
theorem R_pneqF {t t2 e : TypeId} {z : Nat} {x y : Operand} {p : Addr} (hx : a.eval x = .pointer (some p)) (hy : a.eval y = .pointer (some p)) (ht : P.underlying t = some (.pointer e)) (hz : (P.info? e).map (·.size) = some z) (hsz : z ≠ 0) : (execOp a.eval ⟨dst, .binOp .neq t x y t2, ty, ps, af, gd⟩).run P W = .ok (.value (.bool false)) W := by
  obtain ⟨j, hj, rfl⟩ := Option.map_eq_some_iff.1 hz
  have h2 : (Op.equal t (.pointer (some p)) (.pointer (some p))).run P W = .ok true W := equalIn_peq (d := 9999) ht hj hsz
  simp [execOp, hx, hy, eqGuard, binOp, h2]
end

end Go.Proofs.Ytbjligkokogokaa.GPoolPlays
