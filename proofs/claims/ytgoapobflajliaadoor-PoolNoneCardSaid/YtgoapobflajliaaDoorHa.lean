/- For every number nil pools and sets of chapter 39 have no room and nothing, and sets of another size are not taken back: PoolNone returns true, and its argument reads as it did. This text: words and laws for the walks. No condition but those in the statement. -/
import Derived.WalkKit
import Derived.StillTailTactics
import Derived.Deep.LoopGhost
import Derived.KernelRfl
import Derived.Deep.OwnRows
import Derived.Laws.OwnMore
import Derived.Laws.MakeOwn
import Derived.Maps.AppendAt
import Derived.OrdersHeld
import Derived.Maps.OwnSet
import Derived.Maps.Keyed
import Derived.Maps.Views
import Derived.Laws.CopyRow
import Derived.Laws.IdiomCopy
import Derived.Laws.Entries
import Derived.Lib.TrailingZeros
import Derived.Laws.Bits64b
import Derived.Laws.BitsLemmas
import Derived.RangeFuncWrites
import Derived.RangeFuncLeaves
import Derived.RangeFuncCalls
import Derived.Shelf.Abstract
import Derived.Deep.Slices
import Derived.ChangeArms
import Derived.DataReads
import Derived.OpenShut
import Derived.LaidEql
import Derived.Conc.LoneCalls
import Derived.Conc.LoneSelect
import Derived.Conc.LoneSelectN
import Derived.Test.YtgoapobflajliaaDoorProg
namespace Go.Proofs.YtgoapobflajliaaDoor.Hp
open Go Go.RowKit
set_option linter.unusedVariables false
set_option linter.unusedSimpArgs false
/-! ### worlds: what is kept -/
structure Kpt (M : Nat → Prop) (w w' : World) : Prop where
  os : w'.os = w.os
  tape : w'.tape = w.tape
  output : w'.output = w.output
  size : w.heap.size ≤ w'.heap.size
  block : ∀ k, k < w.heap.size → ¬ M k → w'.heap[k]? = w.heap[k]?
theorem Kpt.refl (M : Nat → Prop) (w : World) : Kpt M w w := ⟨rfl, rfl, rfl, Nat.le_refl _, fun _ _ _ => rfl⟩
theorem Kpt.trans {M N : Nat → Prop} {a b c : World} (h : Kpt M a b) (k : Kpt N b c) (hn : ∀ i, N i → M i ∨ a.heap.size ≤ i) : Kpt M a c :=
  ⟨k.os.trans h.os, k.tape.trans h.tape, k.output.trans h.output, Nat.le_trans h.size k.size, fun i hi hm =>
    (k.block i (Nat.lt_of_lt_of_le hi h.size) (fun hN => (hn i hN).elim hm (fun h2 => by omega))).trans (h.block i hi hm)⟩
theorem Kpt.of_below {M : Nat → Prop} {w w' : World} (h : Below w.heap.size w w') : Kpt M w w' := ⟨h.os, h.tape, h.output, h.size, fun k hk _ => h.block k hk⟩
theorem Kpt.below {M : Nat → Prop} {w w' : World} (h : Kpt M w w') (hM : ∀ k, ¬ M k) : Below w.heap.size w w' := ⟨h.os, h.tape, h.output, h.size, fun k hk => h.block k hk (hM k)⟩
theorem Kpt.alloc {M : Nat → Prop} (w : World) (o : Obj) : Kpt M w (w.alloc o) := ⟨rfl, rfl, rfl, by simp, fun k hk _ => heap_alloc_old w o hk⟩
theorem Kpt.drew {M : Nat → Prop} (w : World) (n : Nat) : Kpt M w { w with drawn := n } := ⟨rfl, rfl, rfl, Nat.le_refl _, fun _ _ _ => rfl⟩
theorem Kpt.setRow {M : Nat → Prop} (w : World) (g : Nat) (cs : Array Value) (hM : M g) : Kpt M w (w.setRow g cs) :=
  ⟨rfl, rfl, rfl, by simp [World.setRow], fun k _ hm => setRow_other w g k _ (fun e => hm (e ▸ hM))⟩
/-! ### what is owned -/
structure Ent where
  own : Nat → Prop
  P : World → Prop
  loc : ∀ W W' : World, (∀ k, own k → W'.heap[k]? = W.heap[k]?) → P W → P W'
/-- A block whose cells are all known. -/
def blk (g : Nat) (cs : List Value) (t : Nat) : Ent := ⟨fun k => k = g, fun W => W.heap[g]? = some (.cells cs.toArray t (0, 0)), fun _ _ h p => (h g rfl).trans p⟩
/-- A slice's block from its first cell on; there may be room behind. -/
def row (A : Option Addr) (n c : Nat) (cs : List Value) (t z : Nat) : Ent :=
  ⟨fun k => (Value.slice A n c).ownBlock = some k, fun W => W.ownsRow 0 t z (.slice A n c) n cs, fun W W' h p => by
    refine ⟨p.1, ?_⟩
    rcases p.2 with hn | ⟨g, cap, cur, e, hb, hg, rest⟩
    · exact .inl hn
    · refine .inr ⟨g, cap, cur, e, hb, ?_, rest⟩
      rw [h g (by rw [e]; rfl)]
      exact hg⟩
def owns (L : List Ent) : Nat → Prop := fun k => ∃ e ∈ L, e.own k
structure St (W0 : World) (M : Nat → Prop) (W : World) (L : List Ent) : Prop where
  kept : Kpt M W0 W
  has : ∀ e ∈ L, e.P W ∧ ∀ k, e.own k → k < W.heap.size ∧ (M k ∨ W0.heap.size ≤ k)
  ne : L.Pairwise fun e f => ∀ k, e.own k → ¬ f.own k
namespace St
variable {W0 W W' : World} {M : Nat → Prop} {L : List Ent} {e e' : Ent}
theorem start (W : World) (M : Nat → Prop) : St W M W [] := ⟨.refl _ _, fun _ h => (nomatch h), .nil⟩
theorem get (h : St W0 M W L) {i : Nat} (hi : L[i]? = some e) : e.P W := (h.has e (List.mem_of_getElem? hi)).1
theorem lt (h : St W0 M W L) {i : Nat} (hi : L[i]? = some e) {k : Nat} (hk : e.own k) : k < W.heap.size := ((h.has e (List.mem_of_getElem? hi)).2 k hk).1
/-- The world goes on, nothing of it changes. -/
theorem step (h : St W0 M W L) (hk : Kpt (fun _ => False) W W') : St W0 M W' L :=
  ⟨h.kept.trans hk (fun _ f => f.elim), fun e he => ⟨e.loc W W' (fun k ho => hk.block k ((h.has e he).2 k ho).1 (fun f => f)) (h.has e he).1, fun k ho => ⟨Nat.lt_of_lt_of_le ((h.has e he).2 k ho).1 hk.size, ((h.has e he).2 k ho).2⟩⟩, h.ne⟩
theorem below (h : St W0 M W L) (hb : Below W.heap.size W W') : St W0 M W' L := h.step (.of_below hb)
theorem drew (h : St W0 M W L) (n : Nat) : St W0 M { W with drawn := n } L := h.step (.drew _ _)
/-- Something new. -/
theorem new (h : St W0 M W L) (hk : Kpt (fun _ => False) W W') (hP : e'.P W') (ho : ∀ k, e'.own k → W.heap.size ≤ k ∧ k < W'.heap.size) : St W0 M W' (e' :: L) := by
  have h2 := h.step hk
  refine ⟨h2.kept, fun e he => ?_, List.pairwise_cons.2 ⟨fun f hf k h1 h3 => ?_, h2.ne⟩⟩
  · rcases List.mem_cons.1 he with rfl | he
    · exact ⟨hP, fun k hk' => ⟨(ho k hk').2, .inr (Nat.le_trans h.kept.size (ho k hk').1)⟩⟩
    · exact h2.has e he
  · have := ((h.has f hf).2 k h3).1
    have := (ho k h1).1
    omega
theorem newBlk (h : St W0 M W L) (cs : List Value) (t : Nat) : St W0 M (W.alloc (.cells cs.toArray t)) (blk W.heap.size cs t :: L) :=
  h.new (.alloc _ _) (heap_alloc_new _ _) (fun k hk => by subst hk; exact ⟨Nat.le_refl _, by simp⟩)
/-- One entry changes. -/
theorem upd (h : St W0 M W L) {i : Nat} (hi : L[i]? = some e) (hk : Kpt e.own W W') (hP : e'.P W') (ho : ∀ k, e'.own k → (e.own k ∨ W.heap.size ≤ k) ∧ k < W'.heap.size) : St W0 M W' (L.set i e') := by
  have hm := List.mem_of_getElem? hi
  have hlt := (List.getElem?_eq_some_iff.1 hi).1
  have hel := (List.getElem?_eq_some_iff.1 hi).2
  have hne := List.pairwise_iff_getElem.1 h.ne
  refine ⟨h.kept.trans hk (fun k hk' => ((h.has e hm).2 k hk').2), fun f hf => ?_, List.pairwise_iff_getElem.2 fun a b ha hb hab k h1 h2 => ?_⟩
  · obtain ⟨j, hj, rfl⟩ := List.getElem_of_mem hf
    rw [List.length_set] at hj
    rcases Nat.decEq j i with hji | rfl
    · rw [List.getElem_set_ne (Ne.symm hji)]
      have hf' := h.has L[j] (List.getElem_mem hj)
      refine ⟨L[j].loc W W' (fun k ho' => hk.block k (hf'.2 k ho').1 (fun he => ?_)) hf'.1, fun k ho' => ⟨Nat.lt_of_lt_of_le (hf'.2 k ho').1 hk.size, (hf'.2 k ho').2⟩⟩
      rcases Nat.lt_or_gt_of_ne hji with hlt' | hgt
      · exact hne j i hj hlt hlt' k ho' (hel ▸ he)
      · exact hne i j hlt hj hgt k (hel ▸ he) ho'
    · rw [List.getElem_set_self]
      exact ⟨hP, fun k hk' => ⟨(ho k hk').2, (ho k hk').1.elim (fun h1 => ((h.has e hm).2 k h1).2) (fun h1 => .inr (Nat.le_trans h.kept.size h1))⟩⟩
  · rw [List.length_set] at ha hb
    have key : ∀ (j : Nat) (hj : j < L.length), j ≠ i → L[j].own k → ¬ e'.own k := fun j hj hji h3 h4 => by
      rcases (ho k h4).1 with h5 | h5
      · rcases Nat.lt_or_gt_of_ne hji with hlt' | hgt
        · exact hne j i hj hlt hlt' k h3 (hel ▸ h5)
        · exact hne i j hlt hj hgt k (hel ▸ h5) h3
      · have := ((h.has _ (List.getElem_mem hj)).2 k h3).1
        omega
    rcases Nat.decEq a i with hai | rfl
    · rw [List.getElem_set_ne (Ne.symm hai)] at h1
      rcases Nat.decEq b i with hbi | rfl
      · rw [List.getElem_set_ne (Ne.symm hbi)] at h2
        exact hne a b ha hb hab k h1 h2
      · rw [List.getElem_set_self] at h2
        exact key a (by simpa using ha) hai h1 h2
    · rw [List.getElem_set_self] at h1
      rw [List.getElem_set_ne (by omega)] at h2
      exact key b (by simpa using hb) (by omega) h2 h1
/-- A part of what is owned, in an order of its own; and the rest. -/
theorem perm (h : St W0 M W L) {L' : List Ent} (hp : L.Perm L') : St W0 M W L' :=
  ⟨h.kept, fun e he => h.has e (hp.mem_iff.2 he), (hp.pairwise_iff (fun {x y} hxy k h1 h2 => hxy k h2 h1)).1 h.ne⟩
theorem drop1 (h : St W0 M W (e :: L)) : St W0 M W L := ⟨h.kept, fun f hf => h.has f (List.mem_cons_of_mem _ hf), (List.pairwise_cons.1 h.ne).2⟩
theorem tail {F : List Ent} (h : St W0 M W (F ++ L)) : St W0 M W L := ⟨h.kept, fun f hf => h.has f (List.mem_append_right _ hf), (List.pairwise_append.1 h.ne).2.1⟩
theorem focus {F : List Ent} (h : St W0 M W (F ++ L)) : St W (owns F) W F :=
  ⟨.refl _ _, fun e he => ⟨(h.has e (List.mem_append_left _ he)).1, fun k hk => ⟨((h.has e (List.mem_append_left _ he)).2 k hk).1, .inl ⟨e, he, hk⟩⟩⟩, (List.pairwise_append.1 h.ne).1⟩
/-- Behind a call: what it had is as it says, the rest as it was. -/
theorem join {F G : List Ent} (h : St W0 M W (F ++ L)) (hc : St W (owns F) W' G) : St W0 M W' (G ++ L) := by
  have hF : ∀ k, owns F k → M k ∨ W0.heap.size ≤ k := fun k ⟨e, he, hk⟩ => ((h.has e (List.mem_append_left _ he)).2 k hk).2
  have hL : ∀ f ∈ L, ∀ k, f.own k → k < W.heap.size ∧ ¬ owns F k := fun f hf k hk =>
    ⟨((h.has f (List.mem_append_right _ hf)).2 k hk).1, fun ⟨e, he, hk'⟩ => (List.pairwise_append.1 h.ne).2.2 e he f hf k hk' hk⟩
  refine ⟨h.kept.trans hc.kept hF, fun f hf => ?_, List.pairwise_append.2 ⟨hc.ne, (List.pairwise_append.1 h.ne).2.1, fun f hf g hg k h1 h2 => ?_⟩⟩
  · rcases List.mem_append.1 hf with hf | hf
    · exact ⟨(hc.has f hf).1, fun k hk => ⟨((hc.has f hf).2 k hk).1, (((hc.has f hf).2 k hk).2).elim (hF k) (fun h3 => .inr (Nat.le_trans h.kept.size h3))⟩⟩
    · have h3 := h.has f (List.mem_append_right _ hf)
      exact ⟨f.loc W W' (fun k hk => hc.kept.block k (hL f hf k hk).1 (hL f hf k hk).2) h3.1, fun k hk => ⟨Nat.lt_of_lt_of_le (h3.2 k hk).1 hc.kept.size, (h3.2 k hk).2⟩⟩
  · have h3 := hL g hg k h2
    rcases ((hc.has f hf).2 k h1).2 with h4 | h4
    · exact h3.2 h4
    · omega
theorem cast_ {L2 : List Ent} (h : St W0 M W L) (e : L = L2) : St W0 M W L2 := e ▸ h
theorem blkE (h : St W0 M W L) {i g t : Nat} {cs : List Value} (hi : L[i]? = some (blk g cs t)) : W.heap[g]? = some (.cells cs.toArray t (0, 0)) := h.get hi
/-- A cell of a block. -/
theorem cell (h : St W0 M W L) {i g t : Nat} {cs : List Value} (hi : L[i]? = some (blk g cs t)) {j : Nat} {v : Value} (hv : cs[j]? = some v) : W.cell? ⟨g, j, none⟩ = some v := by
  rw [cell_of_row W g j cs.toArray t (0, 0) (h.blkE hi)]
  simpa using hv
theorem rowE (h : St W0 M W L) {i n c t z : Nat} {A : Option Addr} {cs : List Value} (hi : L[i]? = some (row A n c cs t z)) : W.ownsRow 0 t z (.slice A n c) n cs := h.get hi
/-- A cell of a row. -/
theorem rcell (h : St W0 M W L) {i g n c t z : Nat} {cs : List Value} (hi : L[i]? = some (row (some ⟨g, 0, none⟩) n c cs t z)) {j : Nat} {v : Value} (hv : cs[j]? = some v) : W.cell? ⟨g, j, none⟩ = some v := by
  have := (h.rowE hi).cells (g := g) rfl j v hv
  rwa [show (⟨g, 0, none⟩ : Addr).add j = ⟨g, j, none⟩ by unfold Addr.add; split <;> simp_all] at this
theorem rsome (h : St W0 M W L) {i n c t z : Nat} {A : Option Addr} {cs : List Value} (hi : L[i]? = some (row A n c cs t z)) (hn : 0 < n) : ∃ g, A = some ⟨g, 0, none⟩ := by
  rcases (h.rowE hi).2 with ⟨_, h2⟩ | ⟨g, cap, cur, e, _⟩
  · omega
  · exact ⟨g, by cases e; rfl⟩
end St
/-! ### frames -/
def dfs : Option Nat → List Deferred
  | none => []
  | some D => [{ target := .collected D, args := #[] }]
def FrG (D : Option Nat) (l : List Value) : Act := ⟨l.toArray, dfs D⟩
abbrev Fr (l : List Value) : Act := FrG none l
theorem Fr_put {D : Option Nat} (l : List Value) (d : Nat) (v : Value) : (FrG D l).put (some d) v = FrG D (l.set d v) := by
  simp [FrG, Act.put]
section
variable {P : Program} {ops : Array Oper} {Q : Exit → Act → World → Prop} {R : Act → Prop} {rest : List Oper} {a : Act} {D : Option Nat} {l : List Value} {W W' W0 : World} {M : Nat → Prop} {L : List Ent} {v : Value} {op : Op} {d : Nat} {ty : TypeId} {ps : String} {af : Array Edge} {gd : Option (Nat × Bool)} {dst : Option Nat}
/-- An operation that gives a value. -/
theorem qw (v : Value) (hw : Region.wanted ⟨some d, op, ty, ps, af, gd⟩ (yielded ops (FrG D l).tmps) = true) (hr : (execOp (FrG D l).eval ⟨some d, op, ty, ps, af, gd⟩).run P W = .ok (.value v) W')
    (h : wpList P ops Q rest (FrG D (l.set d v)) W') : wpList P ops Q (⟨some d, op, ty, ps, af, gd⟩ :: rest) (FrG D l) W := by
  refine wpList_step fun K hK => ?_
  rw [if_pos hw]; unfold Oper.wp; rw [hr]
  exact hK _ _ ((Fr_put l d v) ▸ h)
theorem ql (v : Value) (hw : Region.wanted ⟨some d, op, ty, ps, af, gd⟩ (yielded ops (FrG D l).tmps) = true) (hr : (execOp (FrG D l).eval ⟨some d, op, ty, ps, af, gd⟩).run P W = .ok (.value v) W)
    (h : wpList P ops Q rest (FrG D (l.set d v)) W) : wpList P ops Q (⟨some d, op, ty, ps, af, gd⟩ :: rest) (FrG D l) W := qw v hw hr h
theorem qs (v : Value) (hw : Region.wanted ⟨some d, op, ty, ps, af, gd⟩ (yielded ops (FrG D l).tmps) = true) (hr : (execOp (FrG D l).eval ⟨some d, op, ty, ps, af, gd⟩).run P W = .ok (.value v) W)
    (h : wpStill P ops W R rest (FrG D (l.set d v))) : wpStill P ops W R (⟨some d, op, ty, ps, af, gd⟩ :: rest) (FrG D l) := by
  refine wpStill_step fun K hK => ?_
  rw [if_pos hw]; unfold Oper.still; rw [hr]
  exact ⟨rfl, hK _ ((Fr_put l d v) ▸ h)⟩
/-- An operation that its guard leaves out. -/
theorem qln (hw : Region.wanted ⟨some d, op, ty, ps, af, gd⟩ (yielded ops (FrG D l).tmps) = false) (h : wpList P ops Q rest (FrG D (l.set d undef)) W) : wpList P ops Q (⟨some d, op, ty, ps, af, gd⟩ :: rest) (FrG D l) W := by
  refine wpList_step fun K hK => ?_
  rw [if_neg (by rw [hw]; decide)]
  exact hK _ _ ((Fr_put l d undef) ▸ h)
/-- An operation without a value. -/
theorem qk (hw : Region.wanted ⟨none, op, ty, ps, af, gd⟩ (yielded ops (FrG D l).tmps) = true) (hr : (execOp (FrG D l).eval ⟨none, op, ty, ps, af, gd⟩).run P W = .ok .skip W')
    (h : wpList P ops Q rest (FrG D l) W') : wpList P ops Q (⟨none, op, ty, ps, af, gd⟩ :: rest) (FrG D l) W := by
  refine wpList_step fun K hK => ?_
  rw [if_pos hw]; unfold Oper.wp; rw [hr]
  exact hK _ _ h
/-- A call of a function. -/
theorem qc {f : FuncId} {args : Array Value} (hw : Region.wanted ⟨some d, op, ty, ps, af, gd⟩ (yielded ops (FrG D l).tmps) = true) (hr : (execOp (FrG D l).eval ⟨some d, op, ty, ps, af, gd⟩).run P W = .ok (.enter f args) W)
    (h : Calls P f args W fun e w' => ∃ v, e = .returned v ∧ wpList P ops Q rest (FrG D (l.set d v)) w') : wpList P ops Q (⟨some d, op, ty, ps, af, gd⟩ :: rest) (FrG D l) W := by
  refine wpList_step fun K hK => ?_
  rw [if_pos hw]; unfold Oper.wp; rw [hr]
  refine h.mono ?_
  rintro e w' ⟨v, rfl, hv⟩
  exact hK _ _ ((Fr_put l d v) ▸ hv)
theorem R_call {f : FuncId} {fn : Func} {as_ : Array Operand} {ts : Array TypeId} (args : Array Value) (hf : P.funcs[f]? = some fn) (hn : (fn.name == "runtime.NumGoroutine") = false) (hb : fn.body.isSome = true) (ha : as_.map a.eval = args) :
    (execOp a.eval ⟨dst, .call { callee := .value (.func f), args := as_, argTypes := ts }, ty, ps, af, gd⟩).run P W = .ok (.enter f args) W := by
  have hc : ¬ fn.body = none := by intro h; rw [h] at hb; cases hb
  have hm : ¬ fn.name = "runtime.NumGoroutine" := by simpa using hn
  have h0 : (program).run P W = .ok P W := rfl
  simp [execOp, resolve, Deferred.ofValue, invoke, Act.eval, ha, callFunc, h0, hf, hm, hc]
theorem R_bool {x : World} {p : Prop} [Decidable p] {r : Result Next} (h : r = .ok (.value (.bool (decide p))) x) (hp : p) : r = .ok (.value (.bool true)) x := by rw [h, decide_eq_true hp]
theorem R_nbool {x : World} {p : Prop} [Decidable p] {r : Result Next} (h : r = .ok (.value (.bool (decide p))) x) (hp : ¬ p) : r = .ok (.value (.bool false)) x := by rw [h, decide_eq_false hp]
theorem R_beq {x : World} {b c : Bool} {r : Result Next} (h : r = .ok (.value (.bool b)) x) (hb : b = c) : r = .ok (.value (.bool c)) x := by rw [h, hb]
theorem R_int {x : World} {k : IntKind} {m n : Int} {r : Result Next} (h : r = .ok (.value (.int k m)) x) (e : m = n) : r = .ok (.value (.int k n)) x := by rw [h, e]
theorem R_eq {x : World} {u v : Value} {r : Result Next} (h : r = .ok (.value u) x) (e : u = v) : r = .ok (.value v) x := by rw [h, e]
theorem w64 {n : Int} (h : -9223372036854775808 ≤ n ∧ n ≤ 9223372036854775807) : IntKind.i64.wrap n = n := by rw [IntKind.wrap_i64]; omega
/-! reading -/
def aggB (P : Program) (t : TypeId) : Bool := match P.underlying t with | some (.struct _) => true | some (.array _ _) => true | some _ => false | none => true
def someB (P : Program) (t : TypeId) : Bool := (P.underlying t).isSome
theorem run_isAgg {t : TypeId} {b : Bool} (h : aggB P t = b) (hs : someB P t = true) : (isAgg t).run P W = .ok b W := by
  unfold aggB at h; unfold someB at hs
  cases hu : P.underlying t with
  | none => simp [hu] at hs
  | some u => rw [hu] at h; subst h; cases u <;> simp [isAgg, run_underlying hu]
theorem run_sizeOf {t n : Nat} (h : (P.info? t).map (·.size) = some n) : (sizeOf t).run P W = .ok n W := by
  cases hi : P.info? t with
  | none => rw [hi] at h; cases h
  | some i => rw [hi] at h; simp only [Option.map_some, Option.some.injEq] at h; simp [sizeOf, typeInfo, hi, h]
theorem R_load {t : TypeId} {x : Operand} {p : Addr} {v : Value} (hx : a.eval x = .pointer (some p)) (hu : aggB P t = false) (hs : someB P t = true) (hc : W.cell? p = some v) :
    (execOp a.eval ⟨dst, .load t x, ty, ps, af, gd⟩).run P W = .ok (.value v) W := by
  simp [execOp, Instr.loadAt, hx, Instr.sureAddr, loadVar, run_isAgg hu hs, load, Sem.run, hc]
theorem R_index {t : TypeId} {x y : Operand} {g n c z e : Nat} {k : IntKind} {i : Int} (hx : a.eval x = .slice (some ⟨g, 0, none⟩) n c) (hy : a.eval y = .int k i) (ht : P.underlying t = some (.slice e)) (hz : (P.info? e).map (·.size) = some z) (h0 : 0 ≤ i) (h1 : i < n) :
    (execOp a.eval ⟨dst, .indexAddr t x y, ty, ps, af, gd⟩).run P W = .ok (.value (.pointer (some ⟨g, i.toNat * z, none⟩))) W := by
  simp [execOp, Instr.indexAt, hx, hy, asIntOf, run_underlying ht, run_sizeOf hz, h0, h1, Addr.add_lit]
theorem R_index1 {t : TypeId} {x y : Operand} {g n c e : Nat} {k : IntKind} {i : Int} (hx : a.eval x = .slice (some ⟨g, 0, none⟩) n c) (hy : a.eval y = .int k i) (ht : P.underlying t = some (.slice e)) (hz : (P.info? e).map (·.size) = some 1) (h0 : 0 ≤ i) (h1 : i < n) :
    (execOp a.eval ⟨dst, .indexAddr t x y, ty, ps, af, gd⟩).run P W = .ok (.value (.pointer (some ⟨g, i.toNat, none⟩))) W := by
  rw [R_index hx hy ht hz h0 h1, Nat.mul_one]
/-- An element of a slice that begins anywhere. -/
theorem R_indexA {t : TypeId} {x y : Operand} {p : Addr} {n c z e : Nat} {k : IntKind} {i : Int} (hx : a.eval x = .slice (some p) n c) (hy : a.eval y = .int k i) (ht : P.underlying t = some (.slice e)) (hz : (P.info? e).map (·.size) = some z) (h0 : 0 ≤ i) (h1 : i < n) :
    (execOp a.eval ⟨dst, .indexAddr t x y, ty, ps, af, gd⟩).run P W = .ok (.value (.pointer (some (p.add (i.toNat * z))))) W := by
  simp [execOp, Instr.indexAt, hx, hy, asIntOf, run_underlying ht, run_sizeOf hz, h0, h1]
/-- Where a slice's rest begins. -/
def cutA (A : Option Addr) (c m z : Nat) : Option Addr := if c = m then A else A.map (·.add (m * z))
end
/-! ### what changes the world -/
def splice (cs : List Value) (j : Nat) : List Value → List Value
  | [] => cs
  | v :: vs => splice (cs.set j v) (j + 1) vs
theorem splice_length : ∀ (vs cs : List Value) (j : Nat), (splice cs j vs).length = cs.length
  | [], _, _ => rfl
  | v :: vs, cs, j => by rw [splice, splice_length vs]; simp
theorem splice_eq : ∀ (vs cs : List Value) (j : Nat), j + vs.length ≤ cs.length → splice cs j vs = cs.take j ++ vs ++ cs.drop (j + vs.length)
  | [], cs, j, h => by simp [splice]
  | v :: vs, cs, j, h => by
    simp only [List.length_cons] at h ⊢
    rw [splice, splice_eq vs _ _ (by simp; omega), List.take_set, List.drop_set_of_lt (by omega)]
    have hj : j < cs.length := by omega
    rw [List.take_succ_eq_append_getElem hj]
    have h1 : (List.take j cs ++ [cs[j]]).set j v = List.take j cs ++ [v] := by
      rw [List.set_append_right _ _ (by simp; omega)]
      simp [List.length_take, Nat.min_eq_left (Nat.le_of_lt hj)]
    rw [h1]
    simp [Nat.add_assoc, Nat.add_comm 1]
section
variable {P : Program} {ops : Array Oper} {Q : Exit → Act → World → Prop} {R : Act → Prop} {rest : List Oper} {a : Act} {D : Option Nat} {l : List Value} {W W' W0 : World} {M : Nat → Prop} {L : List Ent} {v : Value} {op : Op} {d : Nat} {ty : TypeId} {ps : String} {af : Array Edge} {gd : Option (Nat × Bool)} {dst : Option Nat}
theorem R_store {t : TypeId} {x y : Operand} {g j tb : Nat} {cs : List Value} {v : Value} (news : List Value) (hg : W.heap[g]? = some (.cells cs.toArray tb (0, 0))) (hx : a.eval x = .pointer (some ⟨g, j, none⟩)) (hy : a.eval y = v) (hv : v.cells = news.toArray)
    (hn : (P.info? t).map (·.size) = some news.length) (h1 : ∀ u ∈ news, u.oneCell' = true) (hfit : j + news.length ≤ cs.length) :
    (execOp a.eval ⟨dst, .store t x y, ty, ps, af, gd⟩).run P W = .ok .skip (W.setRow g (splice cs j news).toArray) := by
  have h2 := run_storeCells_at (P := P) g j tb news 0 cs.toArray W hg (by simpa using hfit) h1
  rw [splice_eq _ _ _ hfit]
  simp only [Nat.add_zero] at h2
  simp [execOp, Instr.storeAt, hx, hy, Instr.sureAddr, storeVar, hv, run_sizeOf hn, h2]
theorem St.setBlk (HS : St W0 M W L) {i g tb : Nat} {cs cs' : List Value} (hi : L[i]? = some (blk g cs tb)) : St W0 M (W.setRow g cs'.toArray) (L.set i (blk g cs' tb)) :=
  HS.upd hi (.setRow _ _ _ rfl) (setRow_heap W g _ _ tb _ (HS.blkE hi)) (fun k hk => ⟨.inl hk, by have := HS.lt hi hk; simpa [World.setRow] using this⟩)
/-- A store into a block. -/
theorem ks {t : TypeId} {x y : Operand} {v : Value} (HS : St W0 M W L) (i : Nat) {g tb : Nat} {cs : List Value} (hi : L[i]? = some (blk g cs tb)) (j : Nat) (news : List Value) (hw : Region.wanted ⟨dst, .store t x y, ty, ps, af, gd⟩ (yielded ops (FrG D l).tmps) = true)
    (hx : (FrG D l).eval x = .pointer (some ⟨g, j, none⟩)) (hy : (FrG D l).eval y = v) (hv : v.cells = news.toArray) (hn : (P.info? t).map (·.size) = some news.length) (h1 : ∀ u ∈ news, u.oneCell' = true) (hfit : j + news.length ≤ cs.length) (hd : dst = none)
    (h : ∀ W', St W0 M W' (L.set i (blk g (splice cs j news) tb)) → wpList P ops Q rest (FrG D l) W') : wpList P ops Q (⟨dst, .store t x y, ty, ps, af, gd⟩ :: rest) (FrG D l) W := by
  subst hd
  exact qk hw (R_store news (HS.blkE hi) hx hy hv hn h1 hfit) (h _ (HS.setBlk hi))
theorem St.setRow_ (HS : St W0 M W L) {i g n c t z : Nat} {cs : List Value} (hi : L[i]? = some (row (some ⟨g, 0, none⟩) n c cs t z)) (j : Nat) (news : List Value) (hfit : j + news.length ≤ cs.length) :
    ∃ cur : List Value, W.heap[g]? = some (.cells cur.toArray t (0, 0)) ∧ cs.length ≤ cur.length ∧ St W0 M (W.setRow g (splice cur j news).toArray) (L.set i (row (some ⟨g, 0, none⟩) n c (splice cs j news) t z)) := by
  have hr := HS.rowE hi
  rcases hr.2 with ⟨e, _⟩ | ⟨g', cap, cur, e, hb, hg, h1, h2, h3, h4⟩
  · cases e
  · cases e
    have hl : cs.length = n * z := hr.1
    have hle : n * z ≤ cur.size := by rw [h3]; exact Nat.mul_le_mul_right _ h1
    have hsz : (splice cur.toList j news).length = cur.size := by rw [splice_length]; simp
    refine ⟨cur.toList, by simpa using hg, by rw [hl]; simpa using hle, HS.upd hi (.setRow _ _ _ rfl) ⟨by rw [splice_length]; exact hl, .inr ⟨g, c, _, rfl, Nat.zero_le _, setRow_heap W g _ _ t _ hg, h1, h2, by simpa [hsz] using h3, ?_⟩⟩ (fun k hk => ⟨.inl hk, by have := HS.lt hi hk; simpa [World.setRow] using this⟩)⟩
    show (splice cur.toList j news).take (n * z) = _
    have hfit2 : j + news.length ≤ cur.toList.length := by simp; omega
    rw [splice_eq _ _ _ hfit2, splice_eq _ _ _ hfit, ← h4, List.take_append, List.take_append]
    have e1 : (List.take j cur.toList).length = j := by simp at hfit2 ⊢; omega
    have e2 : List.take (n * z) (List.take j cur.toList) = List.take j (List.take (n * z) cur.toList) := by rw [List.take_take, List.take_take]; congr 1; omega
    have e3 : List.take (n * z - (List.take j cur.toList).length) news = news := by rw [e1]; exact List.take_of_length_le (by omega)
    rw [e2, e3, List.drop_take]
    congr 2
    simp [List.length_append, e1]
    try omega
/-- A store into a row. -/
theorem kr {t : TypeId} {x y : Operand} {v : Value} (HS : St W0 M W L) (i : Nat) {g n c tb z : Nat} {cs : List Value} (hi : L[i]? = some (row (some ⟨g, 0, none⟩) n c cs tb z)) (j : Nat) (news : List Value) (hw : Region.wanted ⟨dst, .store t x y, ty, ps, af, gd⟩ (yielded ops (FrG D l).tmps) = true)
    (hx : (FrG D l).eval x = .pointer (some ⟨g, j, none⟩)) (hy : (FrG D l).eval y = v) (hv : v.cells = news.toArray) (hn : (P.info? t).map (·.size) = some news.length) (h1 : ∀ u ∈ news, u.oneCell' = true) (hfit : j + news.length ≤ cs.length) (hd : dst = none)
    (h : ∀ W', St W0 M W' (L.set i (row (some ⟨g, 0, none⟩) n c (splice cs j news) tb z)) → wpList P ops Q rest (FrG D l) W') : wpList P ops Q (⟨dst, .store t x y, ty, ps, af, gd⟩ :: rest) (FrG D l) W := by
  subst hd
  obtain ⟨cur, hg, hle, HS2⟩ := HS.setRow_ hi j news hfit
  exact qk hw (R_store news hg hx hy hv hn h1 (by omega)) (h _ HS2)
/-- A new block: alloc, box, a literal's. -/
theorem kb (HS : St W0 M W L) (cs : List Value) (t : Nat) (g0 : Nat → Value) (hw : Region.wanted ⟨some d, op, ty, ps, af, gd⟩ (yielded ops (FrG D l).tmps) = true)
    (hr : (execOp (FrG D l).eval ⟨some d, op, ty, ps, af, gd⟩).run P W = .ok (.value (g0 W.heap.size)) (W.alloc (.cells cs.toArray t)))
    (h : ∀ g W', St W0 M W' (blk g cs t :: L) → wpList P ops Q rest (FrG D (l.set d (g0 g))) W') : wpList P ops Q (⟨some d, op, ty, ps, af, gd⟩ :: rest) (FrG D l) W :=
  qw _ hw hr (h _ _ (HS.newBlk cs t))
theorem row_new (W : World) (n c : Nat) (cs cur : List Value) (t z : Nat) (h1 : cs.length = n * z) (h2 : cur.length = c * z) (h3 : n ≤ c) (h4 : c ≤ maxLen) (h5 : cur.take (n * z) = cs) : (row (some ⟨W.heap.size, 0, none⟩) n c cs t z).P (W.alloc (.cells cur.toArray t)) :=
  ⟨h1, .inr ⟨_, _, _, rfl, Nat.zero_le _, heap_alloc_new _ _, h3, h4, by simpa using h2, by simpa using h5⟩⟩
theorem St.newRow (HS : St W0 M W L) (n c : Nat) (cs cur : List Value) (t z : Nat) (h1 : cs.length = n * z) (h2 : cur.length = c * z) (h3 : n ≤ c) (h4 : c ≤ maxLen) (h5 : cur.take (n * z) = cs) : St W0 M (W.alloc (.cells cur.toArray t)) (row (some ⟨W.heap.size, 0, none⟩) n c cs t z :: L) :=
  HS.new (.alloc _ _) (row_new W n c cs cur t z h1 h2 h3 h4 h5) (fun k hk => by simp [row, Value.ownBlock] at hk; subst hk; exact ⟨Nat.le_refl _, by simp⟩)
theorem madeCells_list (zs : List Value) (n : Nat) (hz : 0 < zs.length) : madeCells zs.toArray (n * zs.length) = ((List.replicate n zs).flatten).toArray := by
  apply Array.ext'
  simp only [madeCells]
  apply List.ext_getElem?
  intro j
  have hlen : ((List.replicate n zs).flatten).length = n * zs.length := by simp
  rcases Nat.lt_or_ge j (n * zs.length) with hj | hj
  · have hm : j % zs.length < zs.length := Nat.mod_lt _ hz
    simp only [Array.toList_map, Array.toList_range, List.getElem?_map, List.getElem?_range hj, Option.map_some]
    have key : ∀ (n j : Nat), j < n * zs.length → ((List.replicate n zs).flatten)[j]? = zs[j % zs.length]? := by
      intro n
      induction n with
      | zero => intro j hj; omega
      | succ n ih =>
        intro j hj
        rw [List.replicate_succ, List.flatten_cons]
        rcases Nat.lt_or_ge j zs.length with h1 | h1
        · rw [List.getElem?_append_left h1, Nat.mod_eq_of_lt h1]
        · rw [List.getElem?_append_right h1, ih (j - zs.length) (by rw [Nat.add_mul, Nat.one_mul] at hj; omega), Nat.mod_eq_sub_mod h1]
    rw [key n j hj, List.getElem?_eq_getElem hm]
    simp [hm]
  · rw [List.getElem?_eq_none (by simpa using hj), List.getElem?_eq_none (by simpa using hj)]
theorem zeroV {e : TypeId} {zs : List Value} (hz : ((P.info? e).bind (·.zero)).map (·.cells) = some zs.toArray) : ∃ i zv, P.info? e = some i ∧ i.zero = some zv ∧ zv.cells = zs.toArray := by
  cases hi : P.info? e with
  | none => rw [hi] at hz; cases hz
  | some i =>
    rw [hi] at hz
    simp only [Option.bind_some] at hz
    cases hv : i.zero with
    | none => rw [hv] at hz; cases hz
    | some zv => rw [hv] at hz; exact ⟨i, zv, rfl, hv, by simpa using hz⟩
/-- make([]T, n). -/
theorem km {t : TypeId} {x y : Operand} {e : Nat} {k1 k2 : IntKind} (HS : St W0 M W L) (n : Nat) (zs : List Value) (by_ : Nat) (hw : Region.wanted ⟨some d, .makeSlice t x y, ty, ps, af, gd⟩ (yielded ops (FrG D l).tmps) = true)
    (hx : (FrG D l).eval x = .int k1 (n : Int)) (hy : (FrG D l).eval y = .int k2 (n : Int)) (ht : P.underlying t = some (.slice e)) (hz : ((P.info? e).bind (·.zero)).map (·.cells) = some zs.toArray) (hs : (P.info? e).map (·.size) = some zs.length) (hb : (P.info? e).map (·.bytes) = some by_) (h0 : 0 < zs.length) (hn : n ≤ 140737488355327) (hm : by_ * n ≤ 281474976710656)
    (h : ∀ g W', St W0 M W' (row (some ⟨g, 0, none⟩) n n ((List.replicate n zs).flatten) e zs.length :: L) → wpList P ops Q rest (FrG D (l.set d (.slice (some ⟨g, 0, none⟩) n n))) W') : wpList P ops Q (⟨some d, .makeSlice t x y, ty, ps, af, gd⟩ :: rest) (FrG D l) W := by
  obtain ⟨i, zv, hi, hzv, hc⟩ := zeroV hz
  rw [hi] at hs hb
  have hs' : i.size = zs.length := by simpa using hs
  have hb' : i.bytes = by_ := by simpa using hb
  have hr := run_make (P := P) W t e i zv ht hi hzv k1 k2 (n : Int) (n : Int) (by omega) (Int.le_refl _) (by rw [hb', ← Int.natCast_mul]; omega) (by omega)
  rw [hc, hs', Int.toNat_natCast, madeCells_list zs n h0] at hr
  refine qw (W' := W.alloc (.cells ((List.replicate n zs).flatten).toArray e)) (.slice (some ⟨W.heap.size, 0, none⟩) n n) hw ?_ (h _ _ (HS.newRow n n _ _ e zs.length (by simp) (by simp) (Nat.le_refl _) (by unfold maxLen; omega) (List.take_of_length_le (by simp))))
  simp [execOp, hx, hy, hr]
/-- What is appended. -/
structure Src (W : World) (x : Value) (m z : Nat) (news : List Value) : Prop where
  val : ∃ A c, x = .slice A m c ∧ ((A = none ∧ m = 0) ∨ ∃ ad, A = some ad ∧ ∀ j u, news[j]? = some u → W.cell? (ad.add j) = some u)
  len : news.length = m * z
  one : ∀ u ∈ news, u.oneCell' = true
/-! the code -/
/-- A drawn region whose first n rows only read. -/
theorem rg_still {id : Nat} {ol : List Oper} (HS : St W0 M W L) (n : Nat) (hm : P.follows .mixedOrders = true) (hB : Region.lexTailB .any ol.toArray n = true)
    (h : ∀ W', St W0 M W' L → Kpt (fun _ => False) W W' → wpStill P ol.toArray W' (fun a' => wpList P ol.toArray Q (ol.drop n) a' W') (ol.take n) a) : (Code.region id ol.toArray true).wp P Q a W :=
  wp_region_still_tail n hm hB (h _ (HS.drew _) (.drew _ _))
theorem calls_enter {f : FuncId} {fn : Func} {c : Code} {args : Array Value} {w : World} {R : Ending → World → Prop} (fl : List Value) (hf : P.funcs[f]? = some fn) (hb : fn.body = some c) (ha : (args.toList ++ List.replicate (fn.ntmps - args.size) undef) = fl)
    (h : c.wp P (bodyPost P fn R) (Fr fl) w) : Calls P f args w R := by
  refine calls_of_wp hf hb ?_
  have e : (args ++ Array.replicate (fn.ntmps - args.size) undef) = fl.toArray := by rw [← ha]; apply Array.ext'; simp
  rw [e]; exact h
theorem ret_ {fn : Func} {R : Ending → World → Prop} (v : Value) (hr : (results fn (Fr l).tmps).run P W = .ok v W) (h : R (.returned v) W) : bodyPost P fn R .ret (Fr l) W := ⟨rfl, v, hr, h⟩
end
/-! ### small words -/
section
variable {P : Program} {Q : Exit → Act → World → Prop} {next : Act → World → Prop} {a : Act} {D : Option Nat} {l : List Value} {W W' W0 : World} {M : Nat → Prop} {L : List Ent} {id j : Nat}
theorem x_then (h : next a W) : Exit.then next Q .normal a W := h
theorem x_thenE (h : Q (.exit id) a W) : Exit.then next Q (.exit id) a W := h
theorem x_thenR (h : Q .ret a W) : Exit.then next Q .ret a W := h
theorem x_inb (h : Q .normal a W) : Exit.inBlock id Q .normal a W := h
theorem x_hit (h : Q .normal a W) : Exit.inBlock id Q (.exit id) a W := by simpa [Exit.inBlock] using h
theorem x_pass (hne : id ≠ j) (h : Q (.exit j) a W) : Exit.inBlock id Q (.exit j) a W := by simpa [Exit.inBlock, hne, Ne.symm hne] using h
theorem one_ {news : List Value} (h : news.all (·.oneCell') = true) : ∀ u ∈ news, u.oneCell' = true := List.all_eq_true.1 h
theorem beq_t {x y : Int} (h : x = y) : (x == y) = true := beq_iff_eq.2 h
theorem beq_f {x y : Int} (h : ¬ x = y) : (x == y) = false := beq_eq_false_iff_ne.2 h
theorem bne_t {x y : Int} (h : ¬ x = y) : (x != y) = true := bne_iff_ne.2 h
theorem k_eq {x : Value} {k : IntKind} {m n : Int} (h : x = .int k m) (e : m = n) : x = .int k n := e ▸ h
theorem owns_nil (k : Nat) : ¬ owns [] k := fun ⟨_, h, _⟩ => nomatch h
/-- A cell that was there, of what nothing writes. -/
theorem St.old (HS : St W0 M W L) {p : Addr} {v : Value} (hM : ¬ M p.block) (h : W0.cell? p = some v) : W.cell? p = some v :=
  (World.cell?_of_block (HS.kept.block p.block (World.block_lt_of_cell? W0 p h) hM)).trans h
theorem St.old0 (HS : St W0 (owns []) W L) {p : Addr} {v : Value} (h : W0.cell? p = some v) : W.cell? p = some v := HS.old (owns_nil _) h
/-- Cells that are read. -/
def Rd (W : World) (A : Option Addr) (cs : List Value) : Prop := ∀ j v, cs[j]? = some v → ∃ ad, A = some ad ∧ W.cell? (ad.add j) = some v
theorem Rd.below {A : Option Addr} {cs : List Value} (h : Rd W A cs) (hb : Below W.heap.size W W') : Rd W' A cs := fun j v hv =>
  let ⟨ad, e, hc⟩ := h j v hv; ⟨ad, e, (hb.cell (World.block_lt_of_cell? W _ hc)).trans hc⟩
theorem Rd.old0 {A : Option Addr} {cs : List Value} (h : Rd W0 A cs) (HS : St W0 (owns []) W L) : Rd W A cs := fun j v hv =>
  let ⟨ad, e, hc⟩ := h j v hv; ⟨ad, e, HS.old0 hc⟩
theorem Rd.isSome_ {A : Option Addr} {cs : List Value} (h : Rd W A cs) (hn : 0 < cs.length) : ∃ ad, A = some ad := by
  obtain ⟨ad, e, _⟩ := h 0 _ (List.getElem?_eq_getElem hn); exact ⟨ad, e⟩
theorem Rd.at_ {ad : Addr} {cs : List Value} (h : Rd W (some ad) cs) {j : Nat} {v : Value} (hv : cs[j]? = some v) : W.cell? (ad.add j) = some v := by
  obtain ⟨_, e, hc⟩ := h j v hv; cases e; exact hc
theorem Rd.row (HS : St W0 M W L) {i n c t z : Nat} {A : Option Addr} {cs : List Value} (hi : L[i]? = some (row A n c cs t z)) : Rd W A cs := by
  rcases (HS.rowE hi).2 with ⟨e, h2⟩ | ⟨g, cap, cur, e, _⟩
  · intro j v hv
    have := (HS.rowE hi).1
    rw [h2, Nat.zero_mul] at this
    rw [List.eq_nil_of_length_eq_zero this] at hv; simp at hv
  · intro j v hv
    cases e
    exact ⟨_, rfl, (HS.rowE hi).cells rfl j v hv⟩
end
/-! rows of whole numbers -/
def ci (k : IntKind) (xs : List Int) : List Value := xs.map (Value.int k)
theorem ci_len (k : IntKind) (xs : List Int) : (ci k xs).length = xs.length := by simp [ci]
def rdI (xs : List Int) (i : Int) : Int := xs.getD i.toNat 0
theorem ci_rd {k : IntKind} {xs : List Int} {i : Int} (h0 : 0 ≤ i) (h1 : i < xs.length) : (ci k xs)[i.toNat]? = some (.int k (rdI xs i)) := by
  have h : i.toNat < xs.length := by omega
  simp [ci, rdI, h]
theorem ci_set (k : IntKind) (xs : List Int) (j : Nat) (v : Int) : splice (ci k xs) j [.int k v] = ci k (xs.set j v) := by simp [splice, ci]
theorem ci_rep (k : IntKind) (n : Nat) (x : Int) : ci k (List.replicate n x) = (List.replicate n [Value.int k x]).flatten := by
  induction n with
  | zero => rfl
  | succ n ih => rw [List.replicate_succ, List.replicate_succ, List.flatten_cons, ← ih]; rfl
/-! rows of structs -/
def cf {α : Type} (f : α → List Value) (xs : List α) : List Value := xs.flatMap f
/-- What is owned, in another order. -/
theorem perm_ {L L' : List Ent} (is : List Nat) (hp : is.isPerm (List.range L.length) = true) (h : is.filterMap (L[·]?) = L') : L.Perm L' := by
  have h1 := (List.isPerm_iff.1 hp).filterMap (L[·]?)
  rw [h] at h1
  have h2 : (List.range L.length).filterMap (L[·]?) = L := by
    clear h1 h hp
    induction L with
    | nil => rfl
    | cons a L ih => rw [List.length_cons, List.range_succ_eq_map, List.filterMap_cons]; simp only [List.getElem?_cons_zero, List.filterMap_map]; congr 1
  rw [h2] at h1
  exact h1.symm
section
variable {P : Program} {a : Act} {W W' W0 : World} {M : Nat → Prop} {L : List Ent} {d : Nat} {ty : TypeId} {ps : String} {af : Array Edge} {gd : Option (Nat × Bool)} {dst : Option Nat}
theorem R_indexA1 {t : TypeId} {x y : Operand} {p : Addr} {n c e : Nat} {k : IntKind} {i : Int} (hx : a.eval x = .slice (some p) n c) (hy : a.eval y = .int k i) (ht : P.underlying t = some (.slice e)) (hz : (P.info? e).map (·.size) = some 1) (h0 : 0 ≤ i) (h1 : i < n) :
    (execOp a.eval ⟨dst, .indexAddr t x y, ty, ps, af, gd⟩).run P W = .ok (.value (.pointer (some (p.add i.toNat)))) W := by
  rw [R_indexA hx hy ht hz h0 h1, Nat.mul_one]
end
theorem rdI_eq {xs : List Int} {i : Int} (h0 : 0 ≤ i) (h1 : i < xs.length) : xs[i.toNat]? = some (rdI xs i) := by
  have h : i.toNat < xs.length := by omega
  simp [rdI, h]
section
variable {P : Program} {ops : Array Oper} {Q : Exit → Act → World → Prop} {rest : List Oper} {D : Option Nat} {l : List Value} {W W0 : World} {M : Nat → Prop} {L : List Ent} {d : Nat} {ty : TypeId} {ps : String} {af : Array Edge} {gd : Option (Nat × Bool)}
end
/-! results that lie in memory -/
section
variable {P : Program} {W W0 : World} {M : Nat → Prop} {L : List Ent} {tmps : Array Value} {fn : Func}
end
section
variable {P : Program} {ops : Array Oper} {Q : Exit → Act → World → Prop} {rest : List Oper} {D : Option Nat} {l : List Value} {W W0 : World} {M : Nat → Prop} {L : List Ent} {d : Nat} {ty : TypeId} {ps : String} {af : Array Edge} {gd : Option (Nat × Bool)}
end
attribute [irreducible] rdI ci cf
/-! ### drawn regions with what makes memory among what reads -/
section
variable {P : Program} {ops : Array Oper} {Q : Exit → Act → World → Prop} {D : Option Nat} {l : List Value} {N : Nat → Prop} {V W W' W0 : World} {M : Nat → Prop} {L : List Ent} {op : Op} {d : Nat} {ty : TypeId} {ps : String} {af : Array Edge} {gd : Option (Nat × Bool)} {dst : Option Nat} {n : Nat} {ls : Array Bool}
def TA (P : Program) (ops : Array Oper) (Q : Exit → Act → World → Prop) (N : Nat → Prop) (V : World) (n : Nat) (ls : Array Bool) (a : Act) (w : World) : Prop := wpAnyH P .any ops Q (fun w' => Kpt N V w') n ls a w
theorem Kpt.cell (h : Kpt (fun _ => False) V W) {p : Addr} {v : Value} (hc : V.cell? p = some v) : W.cell? p = some v :=
  (World.cell?_of_block (h.block p.block (World.block_lt_of_cell? V p hc) (fun f => f))).trans hc
theorem Kpt.cells (h : Kpt (fun _ => False) V W) {p : Addr} {cs : List Value} (hc : ∀ j v, cs[j]? = some v → V.cell? (p.add j) = some v) : ∀ j v, cs[j]? = some v → W.cell? (p.add j) = some v := fun j v hv => h.cell (hc j v hv)
theorem Kpt.tr (h : Kpt N V W) (k : Kpt (fun _ => False) W W') : Kpt N V W' := h.trans k (fun _ f => f.elim)
theorem t_start {id : Nat} {ol : List Oper} (HS : St W0 M W L) (N : Nat → Prop) (n : Nat) (hm : P.follows .mixedOrders = true) (hn : ol.toArray.size = n)
    (h : ∀ V, St W0 M V L → Kpt (fun _ => False) W V → TA P ol.toArray Q N V n (Array.replicate n false) (FrG D l) V) : (Code.region id ol.toArray true).wp P Q (FrG D l) W := by
  subst hn
  exact wp_region_held hm (h _ (HS.drew _) (.drew _ _))
theorem t_q (i : Nat) (v : Value) (hi : ops[i]? = some ⟨some d, op, ty, ps, af, gd⟩) (hc : (Region.noSelect ops && Region.free .any ops ls i && (Region.ready .any ops ls).contains i) = true)
    (hw : Region.wanted ⟨some d, op, ty, ps, af, gd⟩ (yielded ops (FrG D l).tmps) = true) (hQ : ∀ c a w, Q (.panic c) (a.put (some d) v) w → Q (.panic c) a w)
    (hr : ∀ w', Kpt N V w' → (execOp (FrG D l).eval ⟨some d, op, ty, ps, af, gd⟩).run P w' = .ok (.value v) w') (hk : Kpt N V W)
    (h : TA P ops Q N V n (ls.setIfInBounds i true) (FrG D (l.set d v)) W) : TA P ops Q N V (n + 1) ls (FrG D l) W := by
  simp only [Bool.and_eq_true] at hc
  refine wpAnyH_take hi hc.1.1 hc.1.2 hc.2 hQ (.inl ⟨hw, fun w' hk' => hr w' hk'⟩) hk ?_
  show wpAnyH _ _ _ _ _ _ _ ((FrG D l).put (some d) v) _
  rw [Fr_put]; exact h
theorem t_qn (i : Nat) (hi : ops[i]? = some ⟨some d, op, ty, ps, af, gd⟩) (hc : (Region.noSelect ops && Region.free .any ops ls i && (Region.ready .any ops ls).contains i) = true)
    (hw : Region.wanted ⟨some d, op, ty, ps, af, gd⟩ (yielded ops (FrG D l).tmps) = false) (hQ : ∀ c a w, Q (.panic c) (a.put (some d) undef) w → Q (.panic c) a w) (hk : Kpt N V W)
    (h : TA P ops Q N V n (ls.setIfInBounds i true) (FrG D (l.set d undef)) W) : TA P ops Q N V (n + 1) ls (FrG D l) W := by
  simp only [Bool.and_eq_true] at hc
  refine wpAnyH_take hi hc.1.1 hc.1.2 hc.2 hQ (.inr ⟨hw, rfl⟩) hk ?_
  show wpAnyH _ _ _ _ _ _ _ ((FrG D l).put (some d) undef) _
  rw [Fr_put]; exact h
theorem t_one (i : Nat) (hr : Region.ready .any ops ls = [i]) (h : wpOp P ops Q i (fun a' w' => Kpt N V w' ∧ TA P ops Q N V n (ls.setIfInBounds i true) a' w') (FrG D l) W) : TA P ops Q N V (n + 1) ls (FrG D l) W :=
  wpAnyH_all hr (by simp) (fun j hj => by rw [List.mem_singleton] at hj; subst hj; exact h)
theorem t_c (i : Nat) {f : FuncId} {args : Array Value} (hi : ops[i]? = some ⟨some d, op, ty, ps, af, gd⟩) (hr : Region.ready .any ops ls = [i]) (hw : Region.wanted ⟨some d, op, ty, ps, af, gd⟩ (yielded ops (FrG D l).tmps) = true)
    (hrun : (execOp (FrG D l).eval ⟨some d, op, ty, ps, af, gd⟩).run P W = .ok (.enter f args) W) (h : Calls P f args W fun e w' => ∃ v, e = .returned v ∧ Kpt N V w' ∧ TA P ops Q N V n (ls.setIfInBounds i true) (FrG D (l.set d v)) w') : TA P ops Q N V (n + 1) ls (FrG D l) W := by
  refine t_one i hr ?_
  unfold wpOp; rw [hi]; simp only; rw [if_pos hw]
  left; unfold Oper.wp; rw [hrun]
  refine h.mono ?_
  rintro e w' ⟨v, rfl, hk, hv⟩
  exact ⟨hk, (Fr_put l d v) ▸ hv⟩
theorem t_done (hr : Region.ready .any ops ls = []) (h : Q .normal (FrG D l) W) : TA P ops Q N V n ls (FrG D l) W := wpAnyH_done hr h n
end
theorem Kpt.nil {a b : World} (h : Kpt (owns []) a b) : Kpt (fun _ => False) a b := ⟨h.os, h.tape, h.output, h.size, fun k hk _ => h.block k hk (owns_nil k)⟩
section
variable {P : Program} {D : Option Nat} {l : List Value} {W W0 : World} {M : Nat → Prop} {L : List Ent} {ty : TypeId} {ps : String} {af : Array Edge} {gd : Option (Nat × Bool)} {dst : Option Nat}
end
/-! ### maps of whole numbers -/
section
variable {P : Program} {ops : Array Oper} {Q : Exit → Act → World → Prop} {R : Act → Prop} {rest : List Oper} {a : Act} {D : Option Nat} {l : List Value} {W W' W0 : World} {M : Nat → Prop} {L : List Ent} {v : Value} {op : Op} {d : Nat} {ty : TypeId} {ps : String} {af : Array Edge} {gd : Option (Nat × Bool)} {dst : Option Nat}
end
/-! ### pieces of rows, copies, remainders -/
theorem add_add_ (a : Addr) (m n : Nat) : (a.add m).add n = a.add (m + n) := by
  unfold Addr.add
  by_cases h : m = 0 <;> by_cases h2 : n = 0 <;> simp_all [Nat.add_assoc]
section
variable {P : Program} {ops : Array Oper} {Q : Exit → Act → World → Prop} {R : Act → Prop} {rest : List Oper} {a : Act} {D : Option Nat} {l : List Value} {W W' W0 : World} {M : Nat → Prop} {L : List Ent} {v : Value} {op : Op} {d : Nat} {ty : TypeId} {ps : String} {af : Array Edge} {gd : Option (Nat × Bool)} {dst : Option Nat}
theorem Src.tail {A : Option Addr} {n c m : Nat} {cs : List Value} (h : Src W (.slice A n c) n 1 cs) (hm : m ≤ n) (hc : n ≤ c) : Src W (.slice (cutA A c m 1) (n - m) (c - m)) (n - m) 1 (cs.drop m) := by
  have hl := h.len
  refine ⟨?_, by rw [List.length_drop]; omega, fun u hu => h.one u (List.mem_of_mem_drop hu)⟩
  obtain ⟨B, c', e, hB⟩ := h.val
  cases e
  refine ⟨_, _, rfl, ?_⟩
  rcases hB with ⟨e, h0⟩ | ⟨ad, e, hc2⟩
  · exact .inl ⟨by unfold cutA; rw [e]; split <;> rfl, by omega⟩
  · subst e
    unfold cutA
    by_cases hcm : c = m
    · rw [if_pos hcm]
      refine .inr ⟨ad, rfl, fun j u hu => ?_⟩
      rw [List.getElem?_eq_none (by rw [List.length_drop]; omega)] at hu; cases hu
    · rw [if_neg hcm]
      refine .inr ⟨_, rfl, fun j u hu => ?_⟩
      rw [List.getElem?_drop] at hu
      rw [Nat.mul_one, add_add_]
      exact hc2 _ u hu
end

/-! ### a ring of whole numbers -/
def ring (bs : List Int) (f n : Nat) : List Int := (List.range n).map fun i => bs.getD ((f + i) % bs.length) 0
structure RQ (bs : List Int) (f n : Nat) (xs : List Int) : Prop where
  hn : n ≤ bs.length
  hf : 0 < bs.length → f < bs.length
  h0 : bs.length = 0 → f = 0
  hb : bs.length ≤ 4398046511104
  hx : xs = ring bs f n
theorem RQ.len {bs xs : List Int} {f n : Nat} (h : RQ bs f n xs) : xs.length = n := by rw [h.hx]; unfold ring; simp
theorem RQ.nil : RQ [] 0 0 [] := ⟨Nat.le_refl _, fun h => by simp at h, fun _ => rfl, by simp, rfl⟩
section
variable {P : Program} {a : Act} {W : World} {dst : Option Nat} {ty : TypeId} {ps : String} {af : Array Edge} {gd : Option (Nat × Bool)}
end

/-! ### words of 64 bits: what is done to them -/
def shrW (w k : Int) : Int := ((w.toNat >>> k.toNat : Nat) : Int)
def shlW (w k : Int) : Int := (((w.toNat <<< k.toNat) % 18446744073709551616 : Nat) : Int)
def orW (a b : Int) : Int := ((a.toNat ||| b.toNat : Nat) : Int)
def andW (a b : Int) : Int := ((a.toNat &&& b.toNat : Nat) : Int)
def anW (a b : Int) : Int := ((a.toNat &&& (18446744073709551615 ^^^ b.toNat) : Nat) : Int)
def U64 (w : Int) : Prop := 0 ≤ w ∧ w < 18446744073709551616
theorem U64.nat {w : Int} (h : U64 w) : ∃ n : Nat, w = n ∧ n < 18446744073709551616 := ⟨w.toNat, by have := h.1; omega, by have := h.2; omega⟩
theorem shr_lt {n k : Nat} {b : Nat} (h : n < b) : n >>> k < b := Nat.lt_of_le_of_lt (Nat.shiftRight_le n k) h
theorem u_shr {w k : Int} (h : U64 w) : U64 (shrW w k) := by
  obtain ⟨n, rfl, hn⟩ := h.nat
  have h2 := shr_lt (k := k.toNat) hn
  unfold shrW U64
  rw [Int.toNat_natCast]
  generalize n >>> k.toNat = z at h2 ⊢
  omega
theorem u_shl {w k : Int} : U64 (shlW w k) := by constructor <;> simp only [shlW] <;> omega
theorem u_or {a b : Int} (ha : U64 a) (hb : U64 b) : U64 (orW a b) := by
  obtain ⟨m, rfl, hm⟩ := ha.nat; obtain ⟨n, rfl, hn⟩ := hb.nat
  have : m ||| n < 2 ^ 64 := Nat.or_lt_two_pow (by omega) (by omega)
  constructor <;> simp only [orW, Int.toNat_natCast] <;> omega
theorem u_an {a b : Int} (ha : U64 a) (hb : U64 b) : U64 (anW a b) := by
  obtain ⟨m, rfl, hm⟩ := ha.nat; obtain ⟨n, rfl, hn⟩ := hb.nat
  have : m &&& (18446744073709551615 ^^^ n) < 2 ^ 64 := Nat.and_lt_two_pow _ (Nat.xor_lt_two_pow (by omega) (by omega))
  constructor <;> simp only [anW, Int.toNat_natCast] <;> omega
theorem u_lit (n : Nat) (h : n < 18446744073709551616) : U64 (n : Int) := ⟨by omega, by omega⟩
section
variable {P : Program} {a : Act} {W : World} {d : Nat} {ty : TypeId} {ps : String} {af : Array Edge} {gd : Option (Nat × Bool)} {dst : Option Nat} {t t2 : TypeId} {x y : Operand}
theorem eqGuard_bits (op : BinOp) (h : op = .and ∨ op = .or ∨ op = .andNot ∨ op = .shl ∨ op = .shr ∨ op = .quo) (t : TypeId) (p q : Operand) (v u : Value) : (eqGuard op t p q v u : Sem Unit) = pure () := by rcases h with rfl | rfl | rfl | rfl | rfl | rfl <;> rfl
theorem R_and {i j : Int} (hx : a.eval x = .int .u64 i) (hy : a.eval y = .int .u64 j) (hi : U64 i) (hj : U64 j) : (execOp a.eval ⟨dst, .binOp .and t x y t2, ty, ps, af, gd⟩).run P W = .ok (.value (.int .u64 (andW i j))) W := by
  obtain ⟨m, rfl, hm⟩ := hi.nat; obtain ⟨n, rfl, hn⟩ := hj.nat
  have h : Op.intBits .and .u64 (m : Int) (n : Int) = pure (.int .u64 (andW m n)) := by
    show pure (Value.int .u64 (bits .and .u64 (m : Int) (n : Int))) = _
    rw [bits_and_u64_nat m n hm hn]; rfl
  have h2 : binOp .and t (.int .u64 (m : Int)) (.int .u64 (n : Int)) = Op.intBits .and .u64 m n := rfl
  simp [execOp, hx, hy, eqGuard_bits, h2, h]
theorem R_or {i j : Int} (hx : a.eval x = .int .u64 i) (hy : a.eval y = .int .u64 j) (hi : U64 i) (hj : U64 j) : (execOp a.eval ⟨dst, .binOp .or t x y t2, ty, ps, af, gd⟩).run P W = .ok (.value (.int .u64 (orW i j))) W := by
  obtain ⟨m, rfl, hm⟩ := hi.nat; obtain ⟨n, rfl, hn⟩ := hj.nat
  have h : Op.intBits .or .u64 (m : Int) (n : Int) = pure (.int .u64 (orW m n)) := by
    show pure (Value.int .u64 (bits .or .u64 (m : Int) (n : Int))) = _
    rw [bits_or_u64_nat m n hm hn]; rfl
  have h2 : binOp .or t (.int .u64 (m : Int)) (.int .u64 (n : Int)) = Op.intBits .or .u64 m n := rfl
  simp [execOp, hx, hy, eqGuard_bits, h2, h]
theorem R_shr {i j : Int} {k2 : IntKind} (hx : a.eval x = .int .u64 i) (hy : a.eval y = .int k2 j) (hi : U64 i) (h0 : 0 ≤ j) (h1 : j < 64) : (execOp a.eval ⟨dst, .binOp .shr t x y t2, ty, ps, af, gd⟩).run P W = .ok (.value (.int .u64 (shrW i j))) W := by
  obtain ⟨m, rfl, hm⟩ := hi.nat; obtain ⟨k, rfl⟩ := Int.eq_ofNat_of_zero_le h0
  have e3 : (m : Int) / (2 ^ k) = shrW m k := by
    unfold shrW
    rw [Int.toNat_natCast, Int.toNat_natCast, Nat.shiftRight_eq_div_pow]
    norm_cast
  have e2 : (m : Int).fdiv (2 ^ k) = shrW m k := by rw [Int.fdiv_eq_ediv_of_nonneg _ (Int.le_of_lt (Int.pow_pos (by decide))), e3]
  have h : Op.shift .shr .u64 (m : Int) k2 (k : Int) = pure (.int .u64 (shrW m k)) := by
    unfold Op.shift
    rw [if_neg (by omega)]
    have e : min ((k : Int).toNat) IntKind.u64.bits = k := by show min ((k : Int).toNat) 64 = k; omega
    simp only [e]
    rw [e2]
  have h2 : binOp .shr t (.int .u64 (m : Int)) (.int k2 (k : Int)) = Op.shift .shr .u64 m k2 k := rfl
  simp [execOp, hx, hy, eqGuard_bits, h2, h, e2, e3]
theorem R_shl {i j : Int} {k2 : IntKind} (hx : a.eval x = .int .u64 i) (hy : a.eval y = .int k2 j) (hi : U64 i) (h0 : 0 ≤ j) (h1 : j < 64) : (execOp a.eval ⟨dst, .binOp .shl t x y t2, ty, ps, af, gd⟩).run P W = .ok (.value (.int .u64 (shlW i j))) W := by
  obtain ⟨m, rfl, hm⟩ := hi.nat; obtain ⟨k, rfl⟩ := Int.eq_ofNat_of_zero_le h0
  have e2 : IntKind.u64.wrap ((m : Int) * 2 ^ k) = shlW m k := by
    unfold shlW
    rw [Int.toNat_natCast, Int.toNat_natCast, Nat.shiftLeft_eq, IntKind.wrap_u64, Int.natCast_emod, Int.natCast_mul, Int.natCast_pow]
    rfl
  have h : Op.shift .shl .u64 (m : Int) k2 (k : Int) = pure (.int .u64 (shlW m k)) := by
    unfold Op.shift
    rw [if_neg (by omega)]
    have e : min ((k : Int).toNat) IntKind.u64.bits = k := by show min ((k : Int).toNat) 64 = k; omega
    simp only [e]
    rw [e2]
  have h2 : binOp .shl t (.int .u64 (m : Int)) (.int k2 (k : Int)) = Op.shift .shl .u64 m k2 k := rfl
  simp [execOp, hx, hy, eqGuard_bits, h2, h, e2]
theorem R_quo {i j : Int} (hx : a.eval x = .int .i64 i) (hy : a.eval y = .int .i64 j) (h0 : 0 ≤ i) (h1 : i ≤ 9223372036854775807) (hj : 0 < j) : (execOp a.eval ⟨dst, .binOp .quo t x y t2, ty, ps, af, gd⟩).run P W = .ok (.value (.int .i64 (i / j))) W := by
  have e : i.tdiv j = i / j := Int.tdiv_eq_ediv_of_nonneg h0
  have h3 : 0 ≤ i / j := Int.ediv_nonneg h0 (by omega)
  have h4 : i / j ≤ i := Int.ediv_le_self _ h0
  have hd : Op.intDiv .quo .i64 i j = pure (.int .i64 (i / j)) := by unfold Op.intDiv; rw [if_neg (by omega), e]; simp only [IntKind.wrap_i64]; congr 2; omega
  have h2 : binOp .quo t (.int .i64 i) (.int .i64 j) = Op.intDiv .quo .i64 i j := rfl
  simp [execOp, hx, hy, eqGuard_bits, h2, hd]
theorem R_rem2 {i j : Int} (hx : a.eval x = .int .i64 i) (hy : a.eval y = .int .i64 j) (h0 : 0 ≤ i) (h1 : i ≤ 9223372036854775807) (hj : 0 < j) : (execOp a.eval ⟨dst, .binOp .rem t x y t2, ty, ps, af, gd⟩).run P W = .ok (.value (.int .i64 (i % j))) W := by
  have e : i.tmod j = i % j := Int.tmod_eq_emod_of_nonneg h0
  have hd : Op.intDiv .rem .i64 i j = pure (.int .i64 (i % j)) := by unfold Op.intDiv; rw [if_neg (by omega), e]
  have h2 : binOp .rem t (.int .i64 i) (.int .i64 j) = Op.intDiv .rem .i64 i j := rfl
  simp [execOp, hx, hy, eqGuard_rem, h2, hd]
end
attribute [irreducible] shrW shlW orW andW anW
/-! ### sets as rows of words -/
def tb (w k : Int) : Bool := w.toNat.testBit k.toNat
def bitI (ws : List Int) (i : Int) : Bool := tb (rdI ws (i / 64)) (i % 64)
theorem tb_shr {w k j : Int} (h0 : 0 ≤ k) (h1 : 0 ≤ j) : tb (shrW w k) j = tb w (k + j) := by
  unfold tb shrW
  rw [Int.toNat_natCast, Nat.testBit_shiftRight, Int.toNat_add h0 h1]
theorem tb_or {a b j : Int} : tb (orW a b) j = (tb a j || tb b j) := by
  unfold tb orW
  rw [Int.toNat_natCast, Nat.testBit_or]
theorem tb_an {a b j : Int} (h0 : 0 ≤ j) (h1 : j < 64) : tb (anW a b) j = (tb a j && !tb b j) := by
  unfold tb anW
  rw [Int.toNat_natCast, Nat.testBit_and, Nat.testBit_xor, show (18446744073709551615 : Nat) = 2 ^ 64 - 1 from rfl, Nat.testBit_two_pow_sub_one, decide_eq_true (by omega : j.toNat < 64), Bool.true_xor]
theorem tb_shl {w k j : Int} (h0 : 0 ≤ k) (hj : 0 ≤ j) (h1 : j < 64) : tb (shlW w k) j = (decide (k ≤ j) && tb w (j - k)) := by
  unfold tb shlW
  rw [Int.toNat_natCast, show (18446744073709551616 : Nat) = 2 ^ 64 from rfl, Nat.testBit_mod_two_pow, Nat.testBit_shiftLeft, decide_eq_true (by omega : j.toNat < 64), Bool.true_and]
  by_cases h : k ≤ j
  · rw [decide_eq_true h, decide_eq_true (by omega : j.toNat ≥ k.toNat), show (j - k).toNat = j.toNat - k.toNat by omega]
  · rw [decide_eq_false h, decide_eq_false (by omega : ¬ j.toNat ≥ k.toNat), Bool.false_and, Bool.false_and]
theorem tb_one {j : Int} (h0 : 0 ≤ j) : tb 1 j = decide (j = 0) := by
  unfold tb
  rw [show (1 : Int).toNat = 1 from rfl]
  by_cases h : j = 0
  · subst h; rfl
  · rw [decide_eq_false h]
    cases e : Nat.testBit 1 j.toNat with
    | false => rfl
    | true => have := Nat.testBit_one_eq_true_iff_self_eq_zero.1 e; omega
theorem tb_bit {k j : Int} (h0 : 0 ≤ k) (hj : 0 ≤ j) (h1 : j < 64) : tb (shlW 1 k) j = decide (j = k) := by
  rw [tb_shl h0 hj h1]
  by_cases h : k ≤ j
  · rw [decide_eq_true h, Bool.true_and, tb_one (by omega)]
    by_cases h2 : j = k
    · rw [decide_eq_true h2, decide_eq_true (by omega)]
    · rw [decide_eq_false h2, decide_eq_false (by omega)]
  · rw [decide_eq_false h, Bool.false_and, decide_eq_false (by omega)]
theorem and_one {w : Int} (h : U64 w) : andW w 1 = if tb w 0 then 1 else 0 := by
  obtain ⟨n, rfl, hn⟩ := h.nat
  unfold andW tb
  rw [Int.toNat_natCast, show (1 : Int).toNat = 1 from rfl, show (0 : Int).toNat = 0 from rfl, Nat.and_one_is_mod, Nat.testBit_zero]
  by_cases h2 : n % 2 = 1
  · rw [decide_eq_true h2, h2]; rfl
  · rw [decide_eq_false h2, show n % 2 = 0 by omega]; rfl
theorem shr_one {w k : Int} (h : U64 w) (h0 : 0 ≤ k) : andW (shrW w k) 1 = if tb w k then 1 else 0 := by
  rw [and_one (u_shr h), tb_shr h0 (Int.le_refl 0), Int.add_zero]
/-- Words of the same bits are the same. -/
theorem word_ext {a b : Int} (ha : U64 a) (hb : U64 b) (h : ∀ j, 0 ≤ j → j < 64 → tb a j = tb b j) : a = b := by
  obtain ⟨m, rfl, hm⟩ := ha.nat; obtain ⟨n, rfl, hn⟩ := hb.nat
  congr 1
  apply Nat.eq_of_testBit_eq
  intro i
  by_cases hi : i < 64
  · have := h (i : Int) (by omega) (by omega)
    simpa [tb] using this
  · have h1 : (2 : Nat) ^ 64 ≤ 2 ^ i := Nat.pow_le_pow_right (by decide) (by omega)
    rw [Nat.testBit_lt_two_pow (by omega), Nat.testBit_lt_two_pow (by omega)]
def ins (i : Int) : List Int → List Int
  | [] => [i]
  | x :: xs => if i < x then i :: x :: xs else x :: ins i xs
theorem mem_ins {i y : Int} {L : List Int} : y ∈ ins i L ↔ y = i ∨ y ∈ L := by
  induction L with
  | nil => simp [ins]
  | cons x xs ih =>
    unfold ins
    split
    · simp
    · simp only [List.mem_cons, ih]; constructor <;> (rintro (h | h | h) <;> simp [h])
theorem ins_sorted {i : Int} {L : List Int} (h : L.Pairwise (· < ·)) (hn : i ∉ L) : (ins i L).Pairwise (· < ·) := by
  induction L with
  | nil => simp [ins]
  | cons x xs ih =>
    have hx := List.pairwise_cons.1 h
    unfold ins
    split
    · rename_i hlt
      refine List.pairwise_cons.2 ⟨fun y hy => ?_, h⟩
      rcases List.mem_cons.1 hy with rfl | hy
      · exact hlt
      · have := hx.1 y hy; omega
    · rename_i hge
      have hne : i ≠ x := fun e => hn (by simp [e])
      refine List.pairwise_cons.2 ⟨fun y hy => ?_, ih hx.2 (fun h2 => hn (by simp [h2]))⟩
      rcases mem_ins.1 hy with rfl | hy
      · omega
      · exact hx.1 y hy
/-- Rising rows of the same members are the same. -/
theorem sorted_ext {L M : List Int} (hL : L.Pairwise (· < ·)) (hM : M.Pairwise (· < ·)) (h : ∀ x, x ∈ L ↔ x ∈ M) : L = M := by
  induction L generalizing M with
  | nil => cases M with
    | nil => rfl
    | cons y ys => have := (h y).2 (by simp); simp at this
  | cons x xs ih =>
    cases M with
    | nil => have := (h x).1 (by simp); simp at this
    | cons y ys =>
      have hx := List.pairwise_cons.1 hL; have hy := List.pairwise_cons.1 hM
      have e : x = y := by
        rcases List.mem_cons.1 ((h x).1 (by simp)) with e | h1
        · exact e
        · rcases List.mem_cons.1 ((h y).2 (by simp)) with e | h2
          · exact e.symm
          · have := hy.1 x h1; have := hx.1 y h2; omega
      subst e
      congr 1
      refine ih hx.2 hy.2 fun z => ?_
      constructor
      · intro hz
        rcases List.mem_cons.1 ((h z).1 (by simp [hz])) with rfl | h1
        · have := hx.1 z hz; omega
        · exact h1
      · intro hz
        rcases List.mem_cons.1 ((h z).2 (by simp [hz])) with rfl | h1
        · have := hy.1 z hz; omega
        · exact h1
theorem rdW_set {xs : List Int} {i x v : Int} (h0 : 0 ≤ i) (h1 : i < xs.length) (hx : 0 ≤ x) : rdI (xs.set i.toNat v) x = if x = i then v else rdI xs x := by
  unfold rdI
  rw [List.getD_eq_getElem?_getD, List.getD_eq_getElem?_getD, List.getElem?_set]
  by_cases e : x = i
  · subst e
    rw [if_pos rfl, if_pos rfl, if_pos (by omega)]; rfl
  · rw [if_neg e, if_neg (by omega)]
structure Rep (ws : List Int) (n : Int) (L : List Int) : Prop where
  len : (ws.length : Int) = (n + 63) / 64
  n0 : 0 ≤ n
  rng : ∀ w ∈ ws, U64 w
  mem : ∀ i : Int, 0 ≤ i → i < 64 * ws.length → (bitI ws i = true ↔ i ∈ L)
  srt : L.Pairwise (· < ·)
  lim : ∀ x ∈ L, 0 ≤ x ∧ x < n
namespace Rep
variable {ws vs : List Int} {n i : Int} {L M : List Int}
theorem idx (h : Rep ws n L) (h0 : 0 ≤ i) (h1 : i < n) : 0 ≤ i / 64 ∧ i / 64 < ws.length ∧ 0 ≤ i % 64 ∧ i % 64 < 64 := by have := h.len; omega
theorem rd (h : Rep ws n L) {k : Int} (h0 : 0 ≤ k) (h1 : k < ws.length) : U64 (rdI ws k) := h.rng _ (List.mem_of_getElem? (rdI_eq h0 h1))
theorem rd_at (h : Rep ws n L) (h0 : 0 ≤ i) (h1 : i < n) : U64 (rdI ws (i / 64)) := h.rd (h.idx h0 h1).1 (h.idx h0 h1).2.1
theorem bit (h : Rep ws n L) (h0 : 0 ≤ i) (h1 : i < n) : bitI ws i = true ↔ i ∈ L := h.mem i h0 (by have := h.len; omega)
theorem has_t (h : Rep ws n L) (hi : i ∈ L) : andW (shrW (rdI ws (i / 64)) (i % 64)) 1 = 1 := by
  have hl := h.lim i hi
  rw [shr_one (h.rd_at hl.1 hl.2) (by omega), if_pos (show tb _ _ = true from (h.bit hl.1 hl.2).2 hi)]
theorem has_f (h : Rep ws n L) (h0 : 0 ≤ i) (h1 : i < n) (hi : i ∉ L) : ¬ andW (shrW (rdI ws (i / 64)) (i % 64)) 1 = 1 := by
  rw [shr_one (h.rd_at h0 h1) (by omega), if_neg (fun hb : tb _ _ = true => hi ((h.bit h0 h1).1 hb))]; decide
theorem out (h : Rep ws n L) (hi : i < 0 ∨ n ≤ i) : i ∉ L := fun hm => by have := h.lim i hm; omega
theorem set_ (h : Rep ws n L) {w' : Int} (h0 : 0 ≤ i) (h1 : i < n) (hw : U64 w') (hs : M.Pairwise (· < ·)) (hl : ∀ x ∈ M, 0 ≤ x ∧ x < n)
    (hin : ∀ j, 0 ≤ j → j < 64 → (tb w' j = true ↔ 64 * (i / 64) + j ∈ M)) (hout : ∀ x, x / 64 ≠ i / 64 → (x ∈ M ↔ x ∈ L)) : Rep (ws.set (i / 64).toNat w') n M := by
  have hi := h.idx h0 h1
  refine ⟨by rw [List.length_set]; exact h.len, h.n0, fun w hw' => ?_, fun x hx0 hx1 => ?_, hs, hl⟩
  · rcases List.mem_or_eq_of_mem_set hw' with hw' | rfl
    · exact h.rng w hw'
    · exact hw
  · rw [List.length_set] at hx1
    unfold bitI
    by_cases e : x / 64 = i / 64
    · rw [e, rdW_set hi.1 hi.2.1 hi.1, if_pos rfl, hin (x % 64) (by omega) (by omega), show 64 * (i / 64) + x % 64 = x by omega]
    · rw [rdW_set hi.1 hi.2.1 (by omega), if_neg e]
      exact (h.mem x hx0 hx1).trans (hout x e).symm
theorem add (h : Rep ws n L) (h0 : 0 ≤ i) (h1 : i < n) (hn : i ∉ L) : Rep (ws.set (i / 64).toNat (orW (rdI ws (i / 64)) (shlW 1 (i % 64)))) n (ins i L) := by
  have hi := h.idx h0 h1
  refine h.set_ h0 h1 (u_or (h.rd_at h0 h1) u_shl) (ins_sorted h.srt hn) (fun x hx => ?_) (fun j hj0 hj1 => ?_) (fun x hx => ?_)
  · rcases mem_ins.1 hx with rfl | hx
    · exact ⟨h0, h1⟩
    · exact h.lim x hx
  · rw [tb_or, tb_bit hi.2.2.1 hj0 hj1, mem_ins, Bool.or_eq_true, decide_eq_true_eq]
    have hm := h.mem (64 * (i / 64) + j) (by omega) (by omega)
    unfold bitI at hm
    rw [show (64 * (i / 64) + j) / 64 = i / 64 by omega, show (64 * (i / 64) + j) % 64 = j by omega] at hm
    rw [hm]
    constructor
    · rintro (h2 | h2)
      · exact .inr h2
      · exact .inl (by omega)
    · rintro (h2 | h2)
      · exact .inr (by omega)
      · exact .inl h2
  · rw [mem_ins]
    constructor
    · rintro (rfl | h2)
      · exact absurd rfl hx
      · exact h2
    · exact .inr
end Rep
namespace Rep
variable {ws vs : List Int} {n i : Int} {L M : List Int}
theorem lst (h : Rep ws n L) : L = ((List.range (64 * ws.length)).filter (fun (i : Nat) => bitI ws (i : Int))).map (fun (i : Nat) => (i : Int)) := by
  refine sorted_ext h.srt (List.pairwise_map.2 (((List.pairwise_lt_range).filter _).imp (fun hab => by omega))) fun x => ?_
  simp only [List.mem_map, List.mem_filter, List.mem_range]
  constructor
  · intro hx
    have hl := h.lim x hx
    have hlen := h.len
    refine ⟨x.toNat, ⟨by omega, ?_⟩, by omega⟩
    rw [show ((x.toNat : Nat) : Int) = x by omega]
    exact (h.bit hl.1 hl.2).2 hx
  · rintro ⟨j, ⟨h1, h2⟩, rfl⟩
    exact (h.mem (j : Int) (by omega) (by omega)).1 h2
theorem inj (h : Rep ws n L) (h' : Rep ws n M) : L = M := by rw [h.lst, h'.lst]
end Rep
namespace Rep
variable {ws vs : List Int} {n i k w : Int} {L M : List Int}
end Rep
/-! ### ranges over functions -/
section
variable {P : Program} {ops : Array Oper} {Q : Exit → Act → World → Prop} {rest : List Oper} {D : Option Nat} {l : List Value} {W W' W0 : World} {M N : Nat → Prop} {L G : List Ent} {v : Value} {op : Op} {d : Nat} {ty : TypeId} {ps : String} {af : Array Edge} {gd : Option (Nat × Bool)} {ρ : Option Nat} {n B : Nat} {a : Act} {w : World} {e : Ent}
end
section
variable {P : Program} {W0 W W1 W2 : World} {M : Nat → Prop} {L G : List Ent} {B : Nat} {Kp : World → World → Prop} {I : List Int → World → Prop} {Ix : Code → List Int → World → Prop} {xs : List Int} {a : Act}
end

/-- What the iterator reads. -/
structure DnI (b g c : Nat) (A : Option Addr) (ws : List Int) (n : Int) (W : World) : Prop where
  hb : W.cell? ⟨b, 0, none⟩ = some (.pointer (some ⟨g, 0, none⟩))
  h0 : W.cell? ⟨g, 0, none⟩ = some (.slice A ws.length c)
  h1 : W.cell? ⟨g, 1, none⟩ = some (.int .i64 n)
  hr : Rd W A (ci .u64 ws)
/-! ### sets joined -/
def addI (a : List Int) (x : Int) : List Int := if x ∈ a then a else ins x a
def uni (L M : List Int) : List Int := M.foldl addI L
theorem mem_addI {a : List Int} {x y : Int} : y ∈ addI a x ↔ y = x ∨ y ∈ a := by
  unfold addI; split
  · exact ⟨.inr, fun h => h.elim (fun e => by subst e; assumption) id⟩
  · exact mem_ins
theorem mem_uni {M : List Int} : ∀ {L : List Int} {y : Int}, y ∈ uni L M ↔ y ∈ L ∨ y ∈ M := by
  induction M with
  | nil => intro L y; simp [uni]
  | cons x M ih =>
    intro L y
    show y ∈ uni (addI L x) M ↔ _
    rw [ih, mem_addI, List.mem_cons]
    constructor
    · rintro ((h | h) | h) <;> simp [h]
    · rintro (h | h | h) <;> simp [h]
theorem addI_sorted {a : List Int} {x : Int} (h : a.Pairwise (· < ·)) : (addI a x).Pairwise (· < ·) := by
  unfold addI; split
  · exact h
  · exact ins_sorted h (by assumption)
theorem uni_sorted {M : List Int} : ∀ {L : List Int}, L.Pairwise (· < ·) → (uni L M).Pairwise (· < ·) := by
  induction M with
  | nil => intro L h; exact h
  | cons x M ih => intro L h; exact ih (addI_sorted h)
theorem or_zero {a b : Int} (ha : U64 a) (hb : U64 b) : orW a b = 0 ↔ a = 0 ∧ b = 0 := by
  constructor
  · intro h
    have hz : ∀ j, 0 ≤ j → j < 64 → (tb a j || tb b j) = false := fun j h0 h1 => by
      rw [← tb_or, h]; unfold tb; simp
    refine ⟨word_ext ha (u_lit 0 (by decide)) fun j h0 h1 => ?_, word_ext hb (u_lit 0 (by decide)) fun j h0 h1 => ?_⟩
    · have := hz j h0 h1; rw [Bool.or_eq_false_iff] at this; rw [this.1]; unfold tb; simp
    · have := hz j h0 h1; rw [Bool.or_eq_false_iff] at this; rw [this.2]; unfold tb; simp
  · rintro ⟨rfl, rfl⟩
    refine word_ext (u_or ha hb) (u_lit 0 (by decide)) fun j h0 h1 => ?_
    rw [tb_or]; unfold tb; simp
theorem an_zero {a b : Int} (ha : U64 a) (hb : U64 b) : anW a b = 0 ↔ ∀ j, 0 ≤ j → j < 64 → tb a j = true → tb b j = true := by
  constructor
  · intro h j h0 h1 ht
    have := tb_an (a := a) (b := b) h0 h1
    rw [h, ht] at this
    unfold tb at this ⊢
    simpa using this.symm
  · intro h
    refine word_ext (u_an ha hb) (u_lit 0 (by decide)) fun j h0 h1 => ?_
    rw [tb_an h0 h1]
    have h2 := h j h0 h1
    cases ha' : tb a j
    · unfold tb; simp
    · rw [h2 ha']; unfold tb; simp
/-- The words of two sets, joined up to one. -/
structure Jn (ws vs cur : List Int) (k ch : Int) : Prop where
  len : cur.length = ws.length
  lo : ∀ i : Int, 0 ≤ i → i < k → rdI cur i = orW (rdI ws i) (rdI vs i)
  hi : ∀ i : Int, k ≤ i → i < ws.length → rdI cur i = rdI ws i
  u : U64 ch
  ch0 : ch = 0 ↔ ∀ i : Int, 0 ≤ i → i < k → anW (rdI vs i) (rdI ws i) = 0
theorem Jn.zero (ws vs : List Int) : Jn ws vs ws 0 0 := ⟨rfl, fun i h0 h1 => by omega, fun _ _ _ => rfl, u_lit 0 (by decide), ⟨fun _ i h0 h1 => by omega, fun _ => rfl⟩⟩
theorem Jn.step {ws vs cur : List Int} {k ch : Int} (h : Jn ws vs cur k ch) (h0 : 0 ≤ k) (h1 : k < ws.length) (hu : U64 (rdI ws k)) (hv : U64 (rdI vs k)) :
    Jn ws vs (cur.set k.toNat (orW (rdI cur k) (rdI vs k))) (k + 1) (orW ch (anW (rdI vs k) (rdI cur k))) := by
  have hc := h.len
  have hk := h.hi k (by omega) h1
  rw [hk]
  refine ⟨by rw [List.length_set, hc], fun i hi0 hi1 => ?_, fun i hi0 hi1 => ?_, u_or h.u (u_an hv hu), ?_⟩
  · rw [rdW_set h0 (by omega) hi0]
    split
    · rename_i e; rw [e]
    · exact h.lo i hi0 (by omega)
  · rw [rdW_set h0 (by omega) (by omega), if_neg (by omega)]; exact h.hi i (by omega) hi1
  · rw [or_zero h.u (u_an hv hu), h.ch0]
    constructor
    · rintro ⟨ha, hb⟩ i hi0 hi1
      rcases Int.lt_or_eq_of_le (show i ≤ k by omega) with hlt | rfl
      · exact ha i hi0 hlt
      · exact hb
    · intro ha
      exact ⟨fun i hi0 hi1 => ha i hi0 (by omega), ha k h0 (by omega)⟩
theorem Rep.join {ws vs cur : List Int} {n ch : Int} {L M : List Int} (h : Rep ws n L) (h' : Rep vs n M) (hj : Jn ws vs cur ws.length ch) : Rep cur n (uni L M) ∧ (ch = 0 ↔ ∀ x ∈ M, x ∈ L) := by
  have hl := h.len
  have hl' := h'.len
  have hw : ∀ i : Int, 0 ≤ i → i < ws.length → rdI cur i = orW (rdI ws i) (rdI vs i) := fun i h0 h1 => hj.lo i h0 h1
  refine ⟨⟨by rw [hj.len]; exact hl, h.n0, fun w hw' => ?_, fun i h0 h1 => ?_, uni_sorted h.srt, fun x hx => (mem_uni.1 hx).elim (h.lim x) (h'.lim x)⟩, ?_⟩
  · obtain ⟨j, hj1, rfl⟩ := List.getElem_of_mem hw'
    have h2 := hj.len
    have e := rdI_eq (xs := cur) (i := (j : Int)) (by omega) (by omega)
    rw [Int.toNat_natCast, List.getElem?_eq_getElem hj1] at e
    rw [Option.some.inj e, hw j (by omega) (by omega)]
    exact u_or (h.rd (by omega) (by omega)) (h'.rd (by omega) (by omega))
  · have h2 := hj.len
    rw [h2] at h1
    unfold bitI
    rw [hw (i / 64) (by omega) (by omega), tb_or, Bool.or_eq_true, mem_uni]
    exact or_congr (h.mem i h0 h1) (h'.mem i h0 (by omega))
  · rw [hj.ch0]
    constructor
    · intro hz x hx
      have hx2 := h'.lim x hx
      have hz2 := (an_zero (h'.rd (by omega) (by omega)) (h.rd (by omega) (by omega))).1 (hz (x / 64) (by omega) (by omega)) (x % 64) (by omega) (by omega)
      exact (h.mem x hx2.1 (by omega)).1 (hz2 ((h'.mem x hx2.1 (by omega)).2 hx))
    · intro hs i h0 h1
      refine (an_zero (h'.rd (by omega) (by omega)) (h.rd (by omega) (by omega))).2 fun j hj0 hj1 ht => ?_
      have a1 := h'.mem (64 * i + j) (by omega) (by omega)
      have a2 := h.mem (64 * i + j) (by omega) (by omega)
      unfold bitI at a1 a2
      rw [show (64 * i + j) / 64 = i by omega, show (64 * i + j) % 64 = j by omega] at a1 a2
      exact a2.2 (hs _ (a1.1 ht))
theorem DnI.tail_ {b g c : Nat} {A : Option Addr} {ws : List Int} {n : Int} {W W' : World} (h : DnI b g c A ws n W) (hb : Below W.heap.size W W') : DnI b g c A ws n W' :=
  ⟨(hb.cell (World.block_lt_of_cell? W _ h.hb)).trans h.hb, (hb.cell (World.block_lt_of_cell? W _ h.h0)).trans h.h0, (hb.cell (World.block_lt_of_cell? W _ h.h1)).trans h.h1, h.hr.below hb⟩
theorem DnI.put {b g c : Nat} {A : Option Addr} {ws : List Int} {n : Int} {W : World} {l : Nat} {o o' : Obj} (h : DnI b g c A ws n W) (hl : W.heap[l]? = some o) (ho : o.isCells = false) : DnI b g c A ws n (W.putObj l o') := by
  have key : ∀ {p : Addr} {v : Value}, W.cell? p = some v → (W.putObj l o').cell? p = some v := fun {p v} hp => by
    obtain ⟨o2, h2, h3⟩ := cells_of_cell hp
    refine (World.cell?_of_block (World.putObj_heap_other (fun e => ?_))).trans hp
    rw [e, hl] at h2; cases h2; rw [ho] at h3; cases h3
  exact ⟨key h.hb, key h.h0, key h.h1, fun j v hv => let ⟨ad, e, hc⟩ := h.hr j v hv; ⟨ad, e, key hc⟩⟩
def addL (n : Int) (L : List Int) (i : Int) : List Int := if 0 ≤ i ∧ i < n ∧ i ∉ L then ins i L else L
def addB (n : Int) (L : List Int) (i : Int) : Bool := decide (0 ≤ i ∧ i < n ∧ i ∉ L)
theorem addL_out {n i : Int} {L : List Int} (h : i < 0 ∨ n ≤ i ∨ i ∈ L) : addL n L i = L ∧ addB n L i = false :=
  ⟨if_neg (fun ⟨a, b, c⟩ => by rcases h with h | h | h; omega; omega; exact c h), decide_eq_false (fun ⟨a, b, c⟩ => by rcases h with h | h | h; omega; omega; exact c h)⟩
theorem addL_in {n i : Int} {L : List Int} (h0 : 0 ≤ i) (h1 : i < n) (h2 : i ∉ L) : addL n L i = ins i L ∧ addB n L i = true := ⟨if_pos ⟨h0, h1, h2⟩, decide_eq_true ⟨h0, h1, h2⟩⟩
section
variable {P : Program} {ops : Array Oper} {Q : Exit → Act → World → Prop} {N : Nat → Prop} {D : Option Nat} {l : List Value} {V W W' : World} {op : Op} {ty : TypeId} {ps : String} {af : Array Edge} {gd : Option (Nat × Bool)} {n : Nat} {ls : Array Bool}
end
section
variable {P : Program} {ops : Array Oper} {Q : Exit → Act → World → Prop} {N : Nat → Prop} {D : Option Nat} {l : List Value} {V W : World} {op : Op} {ty : TypeId} {ps : String} {af : Array Edge} {gd : Option (Nat × Bool)} {n : Nat} {ls : Array Bool}
end

/-! ### what an argument reads as: a row that is read -/
section
variable {P : Program} {w : World} {H : Type} {enc : TypeId × Value → H} {base : Nat} {spare : Nat → Bool} {held : Bool} {fuel : Nat} {t e : TypeId} {cs : List Value} {x : DataW H × List MemPlace}
end

/-! ### many entries as one -/
theorem rd_of_rowP {A : Option Addr} {n c t z : Nat} {cs : List Value} {W : World} (h : (row A n c cs t z).P W) : Rd W A cs := by
  rcases h.2 with ⟨e, h2⟩ | ⟨g, cap, cur, e, _⟩
  · intro j v hv
    have := h.1
    rw [h2, Nat.zero_mul] at this
    rw [List.eq_nil_of_length_eq_zero this] at hv; simp at hv
  · intro j v hv
    cases e
    exact ⟨_, rfl, h.cells rfl j v hv⟩
theorem cell_of_blkP {g t : Nat} {cs : List Value} {W : World} (h : (blk g cs t).P W) {j : Nat} {v : Value} (hv : cs[j]? = some v) : W.cell? ⟨g, j, none⟩ = some v := by
  rw [cell_of_row W g j cs.toArray t (0, 0) h]
  simpa using hv
def dj (e f : Ent) : Prop := ∀ k, e.own k → ¬ f.own k
def many (F : List Ent) : Ent := ⟨fun k => ∃ e ∈ F, e.own k, fun W => (∀ e ∈ F, e.P W) ∧ F.Pairwise dj, fun W W' h p => ⟨fun e he => e.loc W W' (fun k ho => h k ⟨e, he, ho⟩) (p.1 e he), p.2⟩⟩
section
variable {W0 W : World} {M : Nat → Prop} {L F F1 F2 E : List Ent}
theorem St.nilM (h : St W0 M W L) : St W0 M W (many [] :: L) :=
  ⟨h.kept, fun e he => by
    rcases List.mem_cons.1 he with rfl | he
    · exact ⟨⟨fun e he => (nomatch he), .nil⟩, fun k ⟨e, he, _⟩ => (nomatch he)⟩
    · exact h.has e he, List.pairwise_cons.2 ⟨fun f hf k ⟨e, he, _⟩ => (nomatch he), h.ne⟩⟩
end
/-! ### rows of sets -/
abbrev Rw := Option (Nat × Option Addr × Nat × List Int)
def cpt (x : Rw) : List Value := [.pointer (x.map fun y => ⟨y.1, 0, none⟩)]
def rsE1 (ts tu : Nat) (cols : Int) : Rw → List Ent
  | none => []
  | some y => [blk y.1 [.slice y.2.1 y.2.2.2.length y.2.2.1, .int .i64 cols] ts, row y.2.1 y.2.2.2.length y.2.2.1 (ci .u64 y.2.2.2) tu 1]
def rsE (ts tu : Nat) (cols : Int) (rs : List Rw) : List Ent := rs.flatMap (rsE1 ts tu cols)
section
variable {W0 W : World} {M : Nat → Prop} {L : List Ent} {ts tu : Nat} {cols : Int} {rs : List Rw} {k : Nat}
/-- What can be read of a matrix. -/
structure Mr (W : World) (g : Nat) (R : Option Addr) (cr : Nat) (cols : Int) (rs : List Rw) : Prop where
  h0 : W.cell? ⟨g, 0, none⟩ = some (.slice R rs.length cr)
  h1 : W.cell? ⟨g, 1, none⟩ = some (.int .i64 cols)
  hr : Rd W R (cf cpt rs)
  hs : ∀ y, some y ∈ rs → W.cell? ⟨y.1, 0, none⟩ = some (.slice y.2.1 y.2.2.2.length y.2.2.1) ∧ W.cell? ⟨y.1, 1, none⟩ = some (.int .i64 cols) ∧ Rd W y.2.1 (ci .u64 y.2.2.2)
theorem Mr.old0 {g cr : Nat} {R : Option Addr} (h : Mr W0 g R cr cols rs) (HS : St W0 (owns []) W L) : Mr W g R cr cols rs :=
  ⟨HS.old0 h.h0, HS.old0 h.h1, h.hr.old0 HS, fun y hy => ⟨HS.old0 (h.hs y hy).1, HS.old0 (h.hs y hy).2.1, (h.hs y hy).2.2.old0 HS⟩⟩
theorem Mr.of (HS : St W0 M W L) {i j m g cr t t2 : Nat} {R : Option Addr} (hi : L[i]? = some (blk g [.slice R rs.length cr, .int .i64 cols] t)) (hj : L[j]? = some (row R rs.length cr (cf cpt rs) t2 1)) (hm : L[m]? = some (many (rsE ts tu cols rs))) : Mr W g R cr cols rs := by
  refine ⟨HS.cell (j := 0) hi rfl, HS.cell (j := 1) hi rfl, Rd.row HS hj, fun y hy => ?_⟩
  have hP := (HS.get hm).1
  have a1 := hP (blk y.1 [.slice y.2.1 y.2.2.2.length y.2.2.1, .int .i64 cols] ts) (List.mem_flatMap.2 ⟨some y, hy, by simp [rsE1]⟩)
  have a2 := hP (row y.2.1 y.2.2.2.length y.2.2.1 (ci .u64 y.2.2.2) tu 1) (List.mem_flatMap.2 ⟨some y, hy, by simp [rsE1]⟩)
  exact ⟨cell_of_blkP a1 (j := 0) rfl, cell_of_blkP a1 (j := 1) rfl, rd_of_rowP a2⟩
end
def mget (rs : List Rw) (r : Int) : Rw := if 0 ≤ r ∧ r < rs.length then rs.getD r.toNat none else none
def rowL (Ls : List (List Int)) (r : Int) : List Int := if 0 ≤ r ∧ r < Ls.length then Ls.getD r.toNat [] else []
structure MRep (rs : List Rw) (cols : Int) (Ls : List (List Int)) : Prop where
  len : rs.length = Ls.length
  c0 : 0 ≤ cols
  at_ : ∀ (r : Nat) (x : Rw) (L : List Int), rs[r]? = some x → Ls[r]? = some L → match x with | none => L = [] | some y => Rep y.2.2.2 cols L
theorem mget_some {rs : List Rw} {r : Int} {y} (h : mget rs r = some y) : 0 ≤ r ∧ r < rs.length ∧ rs[r.toNat]? = some (some y) := by
  unfold mget at h
  split at h
  · rename_i hc
    refine ⟨hc.1, hc.2, ?_⟩
    rw [List.getD_eq_getElem?_getD, List.getElem?_eq_getElem (by omega), Option.getD_some] at h
    rw [List.getElem?_eq_getElem (by omega), h]
  · cases h
theorem mget_in {rs : List Rw} {r : Int} (h0 : 0 ≤ r) (h1 : r < rs.length) : rs[r.toNat]? = some (mget rs r) := by
  unfold mget; rw [if_pos ⟨h0, h1⟩, List.getD_eq_getElem?_getD, List.getElem?_eq_getElem (by omega), Option.getD_some]
theorem rowL_in {Ls : List (List Int)} {r : Int} (h0 : 0 ≤ r) (h1 : r < Ls.length) : Ls[r.toNat]? = some (rowL Ls r) := by
  unfold rowL; rw [if_pos ⟨h0, h1⟩, List.getD_eq_getElem?_getD, List.getElem?_eq_getElem (by omega), Option.getD_some]
theorem rowL_out {Ls : List (List Int)} {r : Int} (h : r < 0 ∨ (Ls.length : Int) ≤ r) : rowL Ls r = [] := if_neg (by omega)
namespace MRep
variable {rs : List Rw} {cols : Int} {Ls : List (List Int)} {r : Int}
theorem some_ (h : MRep rs cols Ls) {y} (hx : mget rs r = some y) : Rep y.2.2.2 cols (rowL Ls r) := by
  obtain ⟨h0, h1, h2⟩ := mget_some hx
  have hl := h.len
  exact h.at_ r.toNat _ _ h2 (rowL_in h0 (by omega))
theorem none_ (h : MRep rs cols Ls) (hx : mget rs r = none) : rowL Ls r = [] := by
  have hl := h.len
  by_cases hc : 0 ≤ r ∧ r < rs.length
  · exact h.at_ r.toNat none _ (hx ▸ mget_in hc.1 hc.2) (rowL_in hc.1 (by omega))
  · exact rowL_out (by omega)
theorem lim (h : MRep rs cols Ls) : ∀ x ∈ rowL Ls r, 0 ≤ x ∧ x < cols := by
  intro x hx
  cases hm : mget rs r with
  | none => rw [h.none_ hm] at hx; cases hx
  | some y => exact (h.some_ hm).lim x hx
theorem srt (h : MRep rs cols Ls) : (rowL Ls r).Pairwise (· < ·) := by
  cases hm : mget rs r with
  | none => rw [h.none_ hm]; exact .nil
  | some y => exact (h.some_ hm).srt
theorem set_ (h : MRep rs cols Ls) {y} {L : List Int} (hy : Rep y.2.2.2 cols L) : MRep (rs.set r.toNat (some y)) cols (Ls.set r.toNat L) := by
  refine ⟨by rw [List.length_set, List.length_set]; exact h.len, h.c0, fun k x L' hx hL => ?_⟩
  rw [List.getElem?_set] at hx hL
  have hl := h.len
  split at hx
  · rename_i e
    subst e
    rw [if_pos rfl] at hL
    split at hx
    · cases hx
      rw [if_pos (by omega)] at hL; cases hL
      exact hy
    · cases hx
  · rename_i e
    rw [if_neg e] at hL
    exact h.at_ k x L' hx hL
theorem zero {n : Nat} (hc : 0 ≤ cols) : MRep (List.replicate n none) cols (List.replicate n []) := by
  refine ⟨by simp, hc, fun k x L hx hL => ?_⟩
  rw [List.getElem?_replicate] at hx hL
  split at hx
  · rename_i e; rw [if_pos e] at hL; cases hx; cases hL; rfl
  · cases hx
end MRep
section
variable {W0 W : World} {M : Nat → Prop} {L : List Ent} {ts tu : Nat} {cols : Int} {rs : List Rw} {k : Nat}
end
/-! ### sets that wait -/
abbrev Ws := Nat × Option Addr × Nat × List Int
def wptr (wl : List Ws) : List Nat := wl.map fun y => y.1
def wRw (wl : List Ws) : List Rw := wl.map some
section
variable {W0 W : World} {M : Nat → Prop} {L : List Ent} {ts tu : Nat} {cols : Int} {wl : List Ws} {y : Ws}
end
/-! ### a ringS of whole numbers -/
def ringS (bs : List ByteArray) (f n : Nat) : List ByteArray := (List.range n).map fun i => bs.getD ((f + i) % bs.length) ByteArray.empty
structure RQS (bs : List ByteArray) (f n : Nat) (xs : List ByteArray) : Prop where
  hn : n ≤ bs.length
  hf : 0 < bs.length → f < bs.length
  h0 : bs.length = 0 → f = 0
  hb : bs.length ≤ 4398046511104
  hx : xs = ringS bs f n
theorem RQS.len {bs xs : List ByteArray} {f n : Nat} (h : RQS bs f n xs) : xs.length = n := by rw [h.hx]; unfold ringS; simp
theorem RQS.nil : RQS [] 0 0 [] := ⟨Nat.le_refl _, fun h => by simp at h, fun _ => rfl, by simp, rfl⟩
/-! ### a map or none; what is only read, of a block of its own -/
/-- Read from elsewhere: whatever is done within M. -/
def RdF (M : Nat → Prop) (W : World) (B : Option Addr) (cs : List Value) : Prop := ∀ W2 L2, St W M W2 L2 → Rd W2 B cs
theorem RdF.old0 {M : Nat → Prop} {W W2 : World} {L2 : List Ent} {B : Option Addr} {cs : List Value} (h : RdF M W B cs) (HS : St W M W2 L2) : Rd W2 B cs := h W2 L2 HS
/-! ### channels, in one goroutine -/
def chn (c cap : Nat) (buf : List Value) : Ent := ⟨fun k => k = c, fun W => ∃ s r, W.heap[c]? = some (.chan cap buf.toArray false s r false), fun W W' h ⟨s, r, p⟩ => ⟨s, r, (h c rfl).trans p⟩⟩
theorem Kpt.setChan {M : Nat → Prop} (w : World) (c cap : Nat) (buf : Array Value) (cl : Bool) (s r : Nat) (tm : Bool) (hM : M c) : Kpt M w (w.setChan c cap buf cl s r tm) :=
  ⟨rfl, rfl, rfl, by simp [World.setChan], fun k hk hm => by simp only [World.setChan]; rw [Array.getElem?_setIfInBounds_ne (fun e => hm (by subst e; exact hM))]⟩
theorem St.setChan {W0 W : World} {M : Nat → Prop} {L : List Ent} {i c cap : Nat} {buf : List Value} (HS : St W0 M W L) (hi : L[i]? = some (chn c cap buf)) (buf' : List Value) (s r : Nat) : St W0 M (W.setChan c cap buf'.toArray false s r false) (L.set i (chn c cap buf')) := by
  have hlt := HS.lt hi (k := c) rfl
  exact HS.upd hi (.setChan _ _ _ _ _ _ _ _ rfl) ⟨s, r, Conc.heap_setChan W c cap buf'.toArray false s r false hlt⟩ (fun k hk => ⟨.inl hk, by have : k = c := hk; subst this; rw [Conc.size_setChan]; exact hlt⟩)
theorem chn_k {c cap : Nat} {buf : List Value} {V W' : World} (hk : Kpt (fun _ => False) V W') (h : (chn c cap buf).P V) : (chn c cap buf).P W' := by
  obtain ⟨s, r, p⟩ := h
  exact ⟨s, r, (hk.block c (Array.getElem?_eq_some_iff.1 p).1 (fun f => f)).trans p⟩
section
variable {P : Program} {ops : Array Oper} {Q : Exit → Act → World → Prop} {R : Act → Prop} {rest : List Oper} {a : Act} {D : Option Nat} {l : List Value} {W W' W0 : World} {M : Nat → Prop} {L : List Ent} {v : Value} {op : Op} {d : Nat} {ty : TypeId} {ps : String} {af : Array Edge} {gd : Option (Nat × Bool)} {dst : Option Nat}
theorem run_mkc {t e : TypeId} {dir : ChanDir} {n b : Nat} (ht : P.underlying t = some (.chan dir e)) (hb : (P.info? e).map (·.bytes) = some b) (hn : n ≤ 1048576) (hb2 : b ≤ 1024) : (Instr.makeChan t (.int .i64 n)).run P W = .ok (.chan (some W.heap.size)) (W.alloc (.chan n #[] false 0 0 false)) := by
  obtain ⟨i, hi, hb'⟩ := Option.map_eq_some_iff.1 hb
  refine Conc.run_makeChan (P := P) (w := W) ht hi .i64 n (by omega) ?_
  rw [hb', ← Int.natCast_mul]
  have h2 : b * n ≤ 1024 * 1048576 := Nat.mul_le_mul hb2 hn
  omega
theorem chn_new (HS : St W0 M W L) (n : Nat) : St W0 M (W.alloc (.chan n #[] false 0 0 false)) (chn W.heap.size n [] :: L) :=
  HS.new (.alloc _ _) ⟨0, 0, heap_alloc_new _ _⟩ (fun k hk => by have : k = W.heap.size := hk; subst this; exact ⟨Nat.le_refl _, by simp⟩)
theorem kmc {t e : TypeId} {dir : ChanDir} {x : Operand} {b : Nat} (HS : St W0 M W L) (n : Nat) (hw : Region.wanted ⟨some d, .makeChan t x, ty, ps, af, gd⟩ (yielded ops (FrG D l).tmps) = true) (hx : (FrG D l).eval x = .int .i64 (n : Int)) (ht : P.underlying t = some (.chan dir e)) (hb : (P.info? e).map (·.bytes) = some b) (hn : n ≤ 1048576) (hb2 : b ≤ 1024)
    (h : ∀ c W', St W0 M W' (chn c n [] :: L) → wpList P ops Q rest (FrG D (l.set d (.chan (some c)))) W') : wpList P ops Q (⟨some d, .makeChan t x, ty, ps, af, gd⟩ :: rest) (FrG D l) W := by
  have hr := run_mkc (W := W) ht hb hn hb2
  refine qw (W' := W.alloc (.chan n #[] false 0 0 false)) (.chan (some W.heap.size)) hw (by simp [execOp, hx, hr]) (h _ _ (chn_new HS n))
theorem R_lenC {t : TypeId} {e : TypeId} {dir : ChanDir} {x : Operand} {c cap : Nat} {buf : List Value} (hc : (chn c cap buf).P W) (hx : a.eval x = .chan (some c)) (ht : P.underlying t = some (.chan dir e)) : (execOp a.eval ⟨dst, .call { callee := .builtin .len, args := #[x], argTypes := #[t] }, ty, ps, af, gd⟩).run P W = .ok (.value (.int .i64 (buf.length : Int))) W := by
  obtain ⟨s, r, hp⟩ := hc
  have := Conc.run_len_chan (P := P) (w := W) t ty ht hp
  simp [execOp, resolve, invoke, builtin, hx, this, goInt]
theorem R_capC {t : TypeId} {e : TypeId} {dir : ChanDir} {x : Operand} {c cap : Nat} {buf : List Value} (hc : (chn c cap buf).P W) (hx : a.eval x = .chan (some c)) (ht : P.underlying t = some (.chan dir e)) : (execOp a.eval ⟨dst, .call { callee := .builtin .cap, args := #[x], argTypes := #[t] }, ty, ps, af, gd⟩).run P W = .ok (.value (.int .i64 (cap : Int))) W := by
  obtain ⟨s, r, hp⟩ := hc
  have := Conc.run_cap_chan (P := P) (w := W) t ty ht hp
  simp [execOp, resolve, invoke, builtin, hx, this, goInt]
end
end Go.Proofs.YtgoapobflajliaaDoor.Hp
