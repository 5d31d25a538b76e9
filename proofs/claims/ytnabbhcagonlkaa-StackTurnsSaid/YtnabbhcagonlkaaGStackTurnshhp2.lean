/- Written for this claim by gp.py, a program of this session's, over the kit's print. Lean checks it. -/
import Derived.Test.YtnabbhcagonlkaaGStackTurnsx0
import Derived.Test.YtnabbhcagonlkaaGStackTurnshx
import Derived.Test.YtnabbhcagonlkaaGStackTurnshhp1
import Derived.WalkKit
import Derived.StillTailTactics
import Derived.Deep.LoopGhost
import Derived.KernelRfl
import Derived.Deep.OwnRows
import Derived.Laws.OwnMore
import Derived.Laws.MakeOwn
import Derived.Maps.AppendAt
import Derived.OrdersHeld
namespace Go.Proofs.Ytnabbhcagonlkaa.GStackTurns
open Go.RowKit Go.Proofs.YtnabbhcagonlkaaW.PrintWords Go.Proofs.YtnabbhcagonlkaaW.PrintLast Go.Proofs.YtnabbhcagonlkaaW.PrintMore
attribute [local go_sem] max2_int min2_int max_two min_two max_three min_three max_four min_four   -- for this text's walks alone
set_option linter.unusedVariables false
set_option linter.unusedSimpArgs false

--import Derived.WalkKit
--import Derived.StillTailTactics
--import Derived.Deep.LoopGhost
--import Derived.KernelRfl
--import Derived.Deep.OwnRows
--import Derived.Laws.OwnMore
--import Derived.Laws.MakeOwn
--import Derived.Maps.AppendAt
--import Derived.OrdersHeld
/-! ### small words -/
section
variable {P : Program} {Q : Exit → Act → World → Prop} {next : Act → World → Prop} {a : Act} {l : List Value} {W W' W0 : World} {M : Nat → Prop} {L : List Ent} {id j : Nat}
theorem x_then (h : next a W) : Exit.then next Q .normal a W := h
theorem x_thenE (h : Q (.exit id) a W) : Exit.then next Q (.exit id) a W := h
theorem x_thenR (h : Q .ret a W) : Exit.then next Q .ret a W := h
theorem x_inb (h : Q .normal a W) : Exit.inBlock id Q .normal a W := h
theorem x_inbR (h : Q .ret a W) : Exit.inBlock id Q .ret a W := h
theorem x_hit (h : Q .normal a W) : Exit.inBlock id Q (.exit id) a W := by simpa [Exit.inBlock] using h
theorem x_pass (hne : id ≠ j) (h : Q (.exit j) a W) : Exit.inBlock id Q (.exit j) a W := by simpa [Exit.inBlock, hne, Ne.symm hne] using h
theorem nrm {c : Code} {l' : List Value} (e : l = l') (h : c.wp P Q (Fr l') W) : c.wp P Q (Fr l) W := e ▸ h
theorem one_ {news : List Value} (h : news.all (·.oneCell') = true) : ∀ u ∈ news, u.oneCell' = true := List.all_eq_true.1 h
theorem beq_t {x y : Int} (h : x = y) : (x == y) = true := beq_iff_eq.2 h
theorem beq_f {x y : Int} (h : ¬ x = y) : (x == y) = false := beq_eq_false_iff_ne.2 h
theorem bne_t {x y : Int} (h : ¬ x = y) : (x != y) = true := bne_iff_ne.2 h
theorem bne_f {x y : Int} (h : x = y) : (x != y) = false := by simp [h]
theorem k_eq {x : Value} {k : IntKind} {m n : Int} (h : x = .int k m) (e : m = n) : x = .int k n := e ▸ h
theorem kb_eq {x : Value} {b c : Bool} (h : x = .bool b) (e : b = c) : x = .bool c := e ▸ h
theorem owns_nil (k : Nat) : ¬ owns [] k := fun ⟨_, h, _⟩ => nomatch h
/-- A cell that was there, of what nothing writes. -/
theorem St.old (HS : St W0 M W L) {p : Addr} {v : Value} (hM : ¬ M p.block) (h : W0.cell? p = some v) : W.cell? p = some v :=
  (World.cell?_of_block (HS.kept.block p.block (World.block_lt_of_cell? W0 p h) hM)).trans h
theorem St.old0 (HS : St W0 (owns []) W L) {p : Addr} {v : Value} (h : W0.cell? p = some v) : W.cell? p = some v := HS.old (owns_nil _) h
/-- Cells that are read. -/
def Rd (W : World) (A : Option Addr) (cs : List Value) : Prop := ∀ j v, cs[j]? = some v → ∃ ad, A = some ad ∧ W.cell? (ad.add j) = some v
theorem addr_add_block (a : Addr) (n : Nat) : (a.add n).block = a.block := by unfold Addr.add; split <;> rfl
theorem Rd.below {A : Option Addr} {cs : List Value} (h : Rd W A cs) (hb : Below W.heap.size W W') : Rd W' A cs := fun j v hv =>
  let ⟨ad, e, hc⟩ := h j v hv; ⟨ad, e, (hb.cell (World.block_lt_of_cell? W _ hc)).trans hc⟩
theorem Rd.old0 {A : Option Addr} {cs : List Value} (h : Rd W0 A cs) (HS : St W0 (owns []) W L) : Rd W A cs := fun j v hv =>
  let ⟨ad, e, hc⟩ := h j v hv; ⟨ad, e, HS.old0 hc⟩
theorem Rd.isSome_ {A : Option Addr} {cs : List Value} (h : Rd W A cs) (hn : 0 < cs.length) : ∃ ad, A = some ad := by
  obtain ⟨ad, e, _⟩ := h 0 _ (List.getElem?_eq_getElem hn); exact ⟨ad, e⟩
theorem Rd.at_ {ad : Addr} {cs : List Value} (h : Rd W (some ad) cs) {j : Nat} {v : Value} (hv : cs[j]? = some v) : W.cell? (ad.add j) = some v := by
  obtain ⟨_, e, hc⟩ := h j v hv; cases e; exact hc
theorem Rd.row (HS : St W0 M W L) {i n c t z : Nat} {A : Option Addr} {cs : List Value} (hi : L[i]? = some (row A n c cs t z)) : Rd W A cs := by
  rcases (HS.rowE hi).2 with ⟨e, h2⟩ | ⟨g, cap, cur, e, _⟩
  · intro j v hv
    have := (HS.rowE hi).1
    rw [h2, Nat.zero_mul] at this
    rw [List.eq_nil_of_length_eq_zero this] at hv; simp at hv
  · intro j v hv
    cases e
    exact ⟨_, rfl, (HS.rowE hi).cells rfl j v hv⟩
theorem Src.of_rd {A : Option Addr} {n c z : Nat} {cs : List Value} (h : Rd W A cs) (hl : cs.length = n * z) (hz : 0 < z) (hA : n = 0 → A = none ∨ ∃ ad, A = some ad) (h1 : ∀ u ∈ cs, u.oneCell' = true) : Src W (.slice A n c) n z cs := by
  refine ⟨⟨A, c, rfl, ?_⟩, hl, h1⟩
  cases A with
  | none =>
    left
    refine ⟨rfl, ?_⟩
    rcases Nat.eq_zero_or_pos n with h0 | h0
    · exact h0
    · obtain ⟨ad, e⟩ := h.isSome_ (by rw [hl]; exact Nat.mul_pos h0 hz); cases e
  | some ad => exact .inr ⟨ad, rfl, fun j u hu => h.at_ hu⟩
end
/-! rows of whole numbers -/
def ci (k : IntKind) (xs : List Int) : List Value := xs.map (Value.int k)
theorem ci_len (k : IntKind) (xs : List Int) : (ci k xs).length = xs.length := by simp [ci]
theorem ci_nil (k : IntKind) : ci k [] = [] := rfl
theorem ci_one {k : IntKind} {xs : List Int} : ∀ u ∈ ci k xs, u.oneCell' = true := by
  intro u hu; simp only [ci, List.mem_map] at hu; obtain ⟨x, _, rfl⟩ := hu; rfl
def rdI (xs : List Int) (i : Int) : Int := xs.getD i.toNat 0
theorem ci_rd {k : IntKind} {xs : List Int} {i : Int} (h0 : 0 ≤ i) (h1 : i < xs.length) : (ci k xs)[i.toNat]? = some (.int k (rdI xs i)) := by
  have h : i.toNat < xs.length := by omega
  simp [ci, rdI, h]
theorem ci_get {k : IntKind} {xs : List Int} {j : Nat} (h : j < xs.length) : (ci k xs)[j]? = some (.int k (xs.getD j 0)) := by simp [ci, h]
theorem ci_set (k : IntKind) (xs : List Int) (j : Nat) (v : Int) : splice (ci k xs) j [.int k v] = ci k (xs.set j v) := by simp [splice, ci]
theorem ci_app (k : IntKind) (xs ys : List Int) : ci k (xs ++ ys) = ci k xs ++ ci k ys := by simp [ci]
theorem ci_rep (k : IntKind) (n : Nat) (x : Int) : ci k (List.replicate n x) = (List.replicate n [Value.int k x]).flatten := by
  induction n with
  | zero => rfl
  | succ n ih => rw [List.replicate_succ, List.replicate_succ, List.flatten_cons, ← ih]; rfl
/-! rows of structs -/
def cf {α : Type} (f : α → List Value) (xs : List α) : List Value := xs.flatMap f
theorem cf_len {α : Type} {f : α → List Value} {z : Nat} (hf : ∀ x, (f x).length = z) (xs : List α) : (cf f xs).length = xs.length * z := by
  induction xs with
  | nil => simp [cf]
  | cons x xs ih => simp only [cf, List.flatMap_cons, List.length_append, hf, List.length_cons]; have : (List.flatMap f xs).length = xs.length * z := ih; rw [this, Nat.add_mul]; omega
theorem cf_app {α : Type} (f : α → List Value) (xs ys : List α) : cf f (xs ++ ys) = cf f xs ++ cf f ys := by simp [cf]
theorem cf_rd {α : Type} {f : α → List Value} {z : Nat} (hf : ∀ x, (f x).length = z) : ∀ (xs : List α) (i k : Nat) (x : α), xs[i]? = some x → k < z → (cf f xs)[i * z + k]? = (f x)[k]?
  | [], i, k, x, h, _ => by simp at h
  | y :: xs, 0, k, x, h, hk => by
    simp only [List.getElem?_cons_zero, Option.some.injEq] at h
    subst h
    show (f y ++ xs.flatMap f)[0 * z + k]? = _
    rw [Nat.zero_mul, Nat.zero_add, List.getElem?_append_left (by rw [hf]; exact hk)]
  | y :: xs, i + 1, k, x, h, hk => by
    simp only [List.getElem?_cons_succ] at h
    show (f y ++ xs.flatMap f)[(i + 1) * z + k]? = _
    rw [List.getElem?_append_right (by rw [hf, Nat.add_mul]; omega), hf, show (i + 1) * z + k - z = i * z + k by rw [Nat.add_mul]; omega]
    exact cf_rd hf xs i k x h hk
theorem cf_set {α : Type} {f : α → List Value} {z : Nat} (hf : ∀ x, (f x).length = z) (hz : 0 < z) : ∀ (xs : List α) (i : Nat) (x : α), i < xs.length → splice (cf f xs) (i * z) (f x) = cf f (xs.set i x)
  | [], i, x, h => by simp at h
  | y :: xs, 0, x, h => by
    rw [splice_eq _ _ _ (by rw [hf, cf_len hf]; simp; rw [Nat.add_mul]; omega)]
    show List.take (0 * z) (f y ++ xs.flatMap f) ++ f x ++ List.drop (0 * z + (f x).length) (f y ++ xs.flatMap f) = f x ++ xs.flatMap f
    rw [Nat.zero_mul, hf, List.take_zero, List.nil_append, Nat.zero_add, ← hf y, List.drop_left]
  | y :: xs, i + 1, x, h => by
    have hi : i < xs.length := by simpa using h
    have hm : (i + 1) * z ≤ (xs.length) * z := Nat.mul_le_mul_right _ hi
    have ih := cf_set hf hz xs i x hi
    rw [splice_eq _ _ _ (by rw [hf, cf_len hf, ← Nat.succ_mul]; exact Nat.mul_le_mul_right _ hi)] at ih
    rw [splice_eq _ _ _ (by rw [hf, cf_len hf, ← Nat.succ_mul]; exact Nat.mul_le_mul_right _ h)]
    show List.take ((i + 1) * z) (f y ++ xs.flatMap f) ++ f x ++ List.drop ((i + 1) * z + (f x).length) (f y ++ xs.flatMap f) = f y ++ cf f (xs.set i x)
    rw [← ih, List.take_append, List.drop_append, hf, hf, show (i + 1) * z - z = i * z by rw [Nat.add_mul]; omega, show (i + 1) * z + z - z = i * z + z by rw [Nat.add_mul]; omega,
      List.take_of_length_le (by rw [hf, Nat.add_mul]; omega), List.drop_eq_nil_of_le (by rw [hf, Nat.add_mul]; omega), List.nil_append, List.append_assoc, List.append_assoc, List.append_assoc]
    rfl
theorem cf_one {α : Type} {f : α → List Value} (h : ∀ x, (f x).all (·.oneCell') = true) {xs : List α} : ∀ u ∈ cf f xs, u.oneCell' = true := by
  intro u hu; simp only [cf, List.mem_flatMap] at hu; obtain ⟨x, _, hx⟩ := hu; exact List.all_eq_true.1 (h x) u hx
/-- What is owned, in another order. -/
theorem perm_ {L L' : List Ent} (is : List Nat) (hp : is.isPerm (List.range L.length) = true) (h : is.filterMap (L[·]?) = L') : L.Perm L' := by
  have h1 := (List.isPerm_iff.1 hp).filterMap (L[·]?)
  rw [h] at h1
  have h2 : (List.range L.length).filterMap (L[·]?) = L := by
    clear h1 h hp
    induction L with
    | nil => rfl
    | cons a L ih => rw [List.length_cons, List.range_succ_eq_map, List.filterMap_cons]; simp only [List.getElem?_cons_zero, List.filterMap_map]; congr 1
  rw [h2] at h1
  exact h1.symm
theorem add_add (a : Addr) (m k : Nat) : (a.add m).add k = a.add (m + k) := by
  unfold Addr.add
  by_cases hm : m = 0 <;> by_cases hk : k = 0 <;> simp [hm, hk, Nat.add_assoc]
section
variable {P : Program} {a : Act} {W W' W0 : World} {M : Nat → Prop} {L : List Ent} {d : Nat} {ty : TypeId} {ps : String} {af : Array Edge} {gd : Option (Nat × Bool)} {dst : Option Nat}
theorem R_indexA1 {t : TypeId} {x y : Operand} {p : Addr} {n c e : Nat} {k : IntKind} {i : Int} (hx : a.eval x = .slice (some p) n c) (hy : a.eval y = .int k i) (ht : P.underlying t = some (.slice e)) (hz : (P.info? e).map (·.size) = some 1) (h0 : 0 ≤ i) (h1 : i < n) :
    (execOp a.eval ⟨dst, .indexAddr t x y, ty, ps, af, gd⟩).run P W = .ok (.value (.pointer (some (p.add i.toNat)))) W := by
  rw [R_indexA hx hy ht hz h0 h1, Nat.mul_one]
/-- An element of a row of structs that is read. -/
theorem Rd.elem {α : Type} {f : α → List Value} {z : Nat} (hf : ∀ x, (f x).length = z) {ad : Addr} {xs : List α} (h : Rd W (some ad) (cf f xs)) {i : Nat} {x : α} (hx : xs[i]? = some x) : ∀ j v, (f x)[j]? = some v → W.cell? ((ad.add (i * z)).add j) = some v := by
  intro j v hv
  have hj : j < z := by rw [← hf x]; exact (List.getElem?_eq_some_iff.1 hv).1
  rw [add_add]
  exact h.at_ ((cf_rd hf xs i j x hx hj).trans hv)
theorem Rd.elem1 {α : Type} {f : α → List Value} {z : Nat} (hf : ∀ x, (f x).length = z) {ad : Addr} {xs : List α} (h : Rd W (some ad) (cf f xs)) {i k : Nat} {x : α} {v : Value} (hx : xs[i]? = some x) (hv : (f x)[k]? = some v) : W.cell? ((ad.add (i * z)).add k) = some v := Rd.elem hf h hx k v hv
theorem Rd.elem0 {α : Type} {f : α → List Value} {z : Nat} (hf : ∀ x, (f x).length = z) {ad : Addr} {xs : List α} (h : Rd W (some ad) (cf f xs)) {i : Nat} {x : α} {v : Value} (hx : xs[i]? = some x) (hv : (f x)[0]? = some v) : W.cell? (ad.add (i * z)) = some v := by
  have := Rd.elem hf h hx 0 v hv
  rwa [Addr.add_zero'] at this
theorem St.oldN (HS : St W0 (owns []) W L) {p : Addr} {cs : List Value} (h : ∀ j v, cs[j]? = some v → W0.cell? (p.add j) = some v) : ∀ j v, cs[j]? = some v → W.cell? (p.add j) = some v := fun j v hv => HS.old0 (h j v hv)
/-- An element of one's own row of structs. -/
theorem St.elem (HS : St W0 M W L) {α : Type} {f : α → List Value} {z : Nat} (hf : ∀ x, (f x).length = z) {i g n c t : Nat} {xs : List α} (hi : L[i]? = some (row (some ⟨g, 0, none⟩) n c (cf f xs) t z)) {j : Nat} {x : α} (hx : xs[j]? = some x) : ∀ k v, (f x)[k]? = some v → W.cell? ((⟨g, j * z, none⟩ : Addr).add k) = some v := by
  intro k v hv
  have hk : k < z := by rw [← hf x]; exact (List.getElem?_eq_some_iff.1 hv).1
  rw [Addr.add_lit]
  exact HS.rcell hi ((cf_rd hf xs j k x hx hk).trans hv)
theorem St.elem1 (HS : St W0 M W L) {α : Type} {f : α → List Value} {z : Nat} (hf : ∀ x, (f x).length = z) {i g n c t : Nat} {xs : List α} (hi : L[i]? = some (row (some ⟨g, 0, none⟩) n c (cf f xs) t z)) {j k : Nat} {x : α} {v : Value} (hx : xs[j]? = some x) (hv : (f x)[k]? = some v) : W.cell? ⟨g, j * z + k, none⟩ = some v := by
  have := HS.elem hf hi hx k v hv
  rwa [Addr.add_lit] at this
theorem St.elem0 (HS : St W0 M W L) {α : Type} {f : α → List Value} {z : Nat} (hf : ∀ x, (f x).length = z) {i g n c t : Nat} {xs : List α} (hi : L[i]? = some (row (some ⟨g, 0, none⟩) n c (cf f xs) t z)) {j : Nat} {x : α} {v : Value} (hx : xs[j]? = some x) (hv : (f x)[0]? = some v) : W.cell? ⟨g, j * z, none⟩ = some v := HS.elem1 hf hi (k := 0) hx hv
end
def gx {α : Type} [Inhabited α] (xs : List α) (i : Int) : α := xs.getD i.toNat default
theorem gx_eq {α : Type} [Inhabited α] {xs : List α} {i : Int} (h0 : 0 ≤ i) (h1 : i < xs.length) : xs[i.toNat]? = some (gx xs i) := by
  have h : i.toNat < xs.length := by omega
  simp [gx, h]
theorem rdI_eq {xs : List Int} {i : Int} (h0 : 0 ≤ i) (h1 : i < xs.length) : xs[i.toNat]? = some (rdI xs i) := by
  have h : i.toNat < xs.length := by omega
  simp [rdI, h]
section
variable {P : Program} {ops : Array Oper} {Q : Exit → Act → World → Prop} {rest : List Oper} {l : List Value} {W W0 : World} {M : Nat → Prop} {L : List Ent} {d : Nat} {ty : TypeId} {ps : String} {af : Array Edge} {gd : Option (Nat × Bool)}
/-- append to nothing. -/
theorem ka0 {t e : TypeId} {s x : Operand} (HS : St W0 M W L) {z m : Nat} {news : List Value} {xv : Value} (hsrc : Src W xv m z news) (zs : List Value) (by_ : Nat)
    (hw : Region.wanted ⟨some d, .call { callee := .builtin .append, args := #[s, x], argTypes := #[t, t] }, ty, ps, af, gd⟩ (yielded ops (Fr l).tmps) = true)
    (hs : (Fr l).eval s = .slice none 0 0) (hx : (Fr l).eval x = xv)
    (ht : P.underlying t = some (.slice e)) (hz : ((P.info? e).bind (·.zero)).map (·.cells) = some zs.toArray) (hzl : zs.length = z) (hsz : (P.info? e).map (·.size) = some z) (hb : (P.info? e).map (·.bytes) = some by_) (h0 : 0 < z) (h63 : m ≤ 140737488355327) (hbytes : m * by_ ≤ 140737488355328)
    (h : ∀ A' c' W', St W0 M W' (row A' m c' news e z :: L) → wpList P ops Q rest (Fr (l.set d (.slice A' m c'))) W') :
    wpList P ops Q (⟨some d, .call { callee := .builtin .append, args := #[s, x], argTypes := #[t, t] }, ty, ps, af, gd⟩ :: rest) (Fr l) W := by
  refine ka (HS.nilRow e z) 0 rfl hsrc zs by_ hw hs hx ht hz hzl hsz hb h0 (by omega) (by rw [Nat.zero_add]; exact hbytes) fun A' c' W' HS' => ?_
  rw [Nat.zero_add] at HS' ⊢
  exact h A' c' W' HS'
end
/-! results that lie in memory -/
section
variable {P : Program} {W W0 : World} {M : Nat → Prop} {L : List Ent} {tmps : Array Value} {fn : Func}
def oneRes (tmps : Array Value) : ResultVar → Sem Value
  | .tmp t => pure (tmps.getD t undef)
  | .cell a t => do loadVar t (← asAddr (tmps.getD a undef))
theorem results_eq : results fn tmps = (do let vs ← fn.results.mapM (oneRes tmps); pure (if h : vs.size = 1 then vs[0] else .tuple vs)) := by
  unfold results oneRes; rfl
theorem res1 {r1 : ResultVar} {v1 : Value} (h : fn.results = #[r1]) (h1 : (oneRes tmps r1).run P W = .ok v1 W) : (results fn tmps).run P W = .ok v1 W := by
  simp [results_eq, h, h1]
theorem res2 {r1 r2 : ResultVar} {v1 v2 : Value} (h : fn.results = #[r1, r2]) (h1 : (oneRes tmps r1).run P W = .ok v1 W) (h2 : (oneRes tmps r2).run P W = .ok v2 W) : (results fn tmps).run P W = .ok (.tuple #[v1, v2]) W := by
  simp [results_eq, h, h1, h2]
theorem res3 {r1 r2 r3 : ResultVar} {v1 v2 v3 : Value} (h : fn.results = #[r1, r2, r3]) (h1 : (oneRes tmps r1).run P W = .ok v1 W) (h2 : (oneRes tmps r2).run P W = .ok v2 W) (h3 : (oneRes tmps r3).run P W = .ok v3 W) : (results fn tmps).run P W = .ok (.tuple #[v1, v2, v3]) W := by
  simp [results_eq, h, h1, h2, h3]
theorem oneRes_t {t : Nat} {v : Value} (h : tmps.getD t undef = v) : (oneRes tmps (.tmp t)).run P W = .ok v W := by
  simp only [oneRes, h]; rfl
theorem oneRes_agg {a : Nat} {t : TypeId} {p : Addr} (cs : List Value) (hp : tmps.getD a undef = .pointer (some p)) (hu : aggB P t = true) (hs : someB P t = true) (hn : (P.info? t).map (·.size) = some cs.length) (hc : ∀ j v, cs[j]? = some v → W.cell? (p.add j) = some v) : (oneRes tmps (.cell a t)).run P W = .ok (.agg cs.toArray) W := by
  simp only [oneRes, hp]
  simp [asAddr, loadVar, run_isAgg hu hs, run_sizeOf hn, run_loadCells_list W p cs hc]
theorem oneRes_one {a : Nat} {t : TypeId} {p : Addr} {v : Value} (hp : tmps.getD a undef = .pointer (some p)) (hu : aggB P t = false) (hs : someB P t = true) (hc : W.cell? p = some v) : (oneRes tmps (.cell a t)).run P W = .ok v W := by
  simp only [oneRes, hp]
  simp [asAddr, loadVar, run_isAgg hu hs, load, Sem.run, hc]
/-- A whole block, read. -/
theorem St.cellsN (HS : St W0 M W L) {i g t : Nat} {cs : List Value} (hi : L[i]? = some (blk g cs t)) : ∀ j v, cs[j]? = some v → W.cell? ((⟨g, 0, none⟩ : Addr).add j) = some v := fun j v hv => by
  rw [Addr.add_lit, Nat.zero_add]; exact HS.cell hi hv
theorem cell_at {g j t : Nat} {cs : Array Value} {fr : Nat × Nat} {v : Value} (h : W.heap[g]? = some (.cells cs t fr)) (hv : cs[j]? = some v) : W.cell? ⟨g, j, none⟩ = some v := by
  rw [cell_of_row W g j cs t fr h]; exact hv
theorem cut_rd {A : Option Addr} {c lo hi : Nat} {k : IntKind} {os xs : List Int} (h : Rd W A (ci k os)) (hlo : lo ≤ hi) (hhi : hi ≤ os.length) (hc : os.length ≤ c) (hx : (os.drop lo).take (hi - lo) = xs) : ∃ B cB, Value.slice (cutA A c lo 1) (hi - lo) (c - lo) = .slice B xs.length cB ∧ Rd W B (ci k xs) := by
  have hl : xs.length = hi - lo := by rw [← hx, List.length_take, List.length_drop]; omega
  refine ⟨_, _, by rw [hl], fun j v hv => ?_⟩
  have hj : j < hi - lo := by rw [← hl, ← ci_len k]; exact (List.getElem?_eq_some_iff.1 hv).1
  have hv2 : (ci k os)[lo + j]? = some v := by
    rw [← hx] at hv
    unfold ci at hv ⊢
    rw [List.getElem?_map, List.getElem?_take_of_lt hj, List.getElem?_drop] at hv
    rw [List.getElem?_map]; exact hv
  obtain ⟨ad, rfl, hcell⟩ := h _ _ hv2
  unfold cutA
  rw [if_neg (by omega)]
  refine ⟨_, rfl, ?_⟩
  rw [add_add, Nat.mul_one]; exact hcell
theorem Src.of_rd' {A : Option Addr} {n c z : Nat} {cs : List Value} (h : Rd W A cs) (hl : cs.length = n * z) (hz : 0 < z) (h1 : ∀ u ∈ cs, u.oneCell' = true) : Src W (.slice A n c) n z cs :=
  Src.of_rd h hl hz (fun _ => by cases A; exact .inl rfl; exact .inr ⟨_, rfl⟩) h1
end
section
variable {P : Program} {ops : Array Oper} {Q : Exit → Act → World → Prop} {rest : List Oper} {l : List Value} {W W0 : World} {M : Nat → Prop} {L : List Ent} {d : Nat} {ty : TypeId} {ps : String} {af : Array Edge} {gd : Option (Nat × Bool)}
/-- append, what comes of it told in words of one's own. -/
theorem ka1 {t e : TypeId} {s x : Operand} (HS : St W0 M W L) (i : Nat) {n c z m : Nat} {A : Option Addr} {cs news : List Value} {xv : Value} (hi : L[i]? = some (row A n c cs e z)) (hsrc : Src W xv m z news) (zs : List Value) (by_ n' : Nat) (cs' : List Value) (hn : n + m = n') (hcs : cs ++ news = cs')
    (hw : Region.wanted ⟨some d, .call { callee := .builtin .append, args := #[s, x], argTypes := #[t, t] }, ty, ps, af, gd⟩ (yielded ops (Fr l).tmps) = true)
    (hs : (Fr l).eval s = .slice A n c) (hx : (Fr l).eval x = xv)
    (ht : P.underlying t = some (.slice e)) (hz : ((P.info? e).bind (·.zero)).map (·.cells) = some zs.toArray) (hzl : zs.length = z) (hsz : (P.info? e).map (·.size) = some z) (hb : (P.info? e).map (·.bytes) = some by_) (h0 : 0 < z) (h63 : n' ≤ 140737488355327) (hbytes : n' * by_ ≤ 140737488355328)
    (h : ∀ A' c' W', St W0 M W' (L.set i (row A' n' c' cs' e z)) → wpList P ops Q rest (Fr (l.set d (.slice A' n' c'))) W') :
    wpList P ops Q (⟨some d, .call { callee := .builtin .append, args := #[s, x], argTypes := #[t, t] }, ty, ps, af, gd⟩ :: rest) (Fr l) W := by
  subst hn; subst hcs
  exact ka HS i hi hsrc zs by_ hw hs hx ht hz hzl hsz hb h0 h63 hbytes h
/-- A row's head. -/
theorem St.cutRow (HS : St W0 M W L) {i n c t z : Nat} {A : Option Addr} {cs : List Value} (hi : L[i]? = some (row A n c cs t z)) (n' : Nat) (cs' : List Value) (hn : n' ≤ n) (hcs : cs.take (n' * z) = cs') : St W0 M W (L.set i (row A n' c cs' t z)) := by
  refine HS.turn hi (fun hP => ?_) (fun k hk => by cases A <;> exact hk)
  have hl := HS.rlen hi
  refine ⟨by rw [← hcs, List.length_take, hl]; exact Nat.min_eq_left (Nat.mul_le_mul_right _ hn), ?_⟩
  rcases hP.2 with ⟨e, h2⟩ | ⟨g, cap, cur, e, hb, hg, h1, h2, h3, h4⟩
  · cases e; exact .inl ⟨by rw [show n' = 0 by omega], by omega⟩
  · cases e
    refine .inr ⟨g, c, cur, rfl, hb, hg, Nat.le_trans hn h1, h2, h3, ?_⟩
    rw [← hcs, ← h4, List.take_take, Nat.min_eq_left (Nat.mul_le_mul_right _ hn)]
end
theorem cf_rep {α : Type} {f : α → List Value} (x : α) (n : Nat) : cf f (List.replicate n x) = (List.replicate n (f x)).flatten := by
  induction n with
  | zero => rfl
  | succ n ih => rw [List.replicate_succ, List.replicate_succ, List.flatten_cons, ← ih]; rfl
theorem cf_take {α : Type} {f : α → List Value} {z : Nat} (hf : ∀ x, (f x).length = z) (xs : List α) (n : Nat) : (cf f xs).take (n * z) = cf f (xs.take n) := by
  induction xs generalizing n with
  | nil => simp [cf]
  | cons x xs ih =>
    cases n with
    | zero => simp [cf]
    | succ n =>
      show (f x ++ cf f xs).take ((n + 1) * z) = f x ++ cf f (xs.take n)
      rw [← ih n, List.take_append, hf, List.take_of_length_le (by rw [hf, Nat.add_mul]; omega), show (n + 1) * z - z = n * z by rw [Nat.add_mul]; omega]
theorem ci_take (k : IntKind) (xs : List Int) (n : Nat) : (ci k xs).take (n * 1) = ci k (xs.take n) := by simp [ci, List.map_take]
attribute [irreducible] rdI gx ci cf
/-! ### drawn regions with what makes memory among what reads -/
section
variable {P : Program} {ops : Array Oper} {Q : Exit → Act → World → Prop} {l : List Value} {N : Nat → Prop} {V W W' W0 : World} {M : Nat → Prop} {L : List Ent} {op : Op} {d : Nat} {ty : TypeId} {ps : String} {af : Array Edge} {gd : Option (Nat × Bool)} {dst : Option Nat} {n : Nat} {ls : Array Bool}
def TA (P : Program) (ops : Array Oper) (Q : Exit → Act → World → Prop) (N : Nat → Prop) (V : World) (n : Nat) (ls : Array Bool) (a : Act) (w : World) : Prop := wpAnyH P .any ops Q (fun w' => Kpt N V w') n ls a w
theorem Kpt.cell (h : Kpt (fun _ => False) V W) {p : Addr} {v : Value} (hc : V.cell? p = some v) : W.cell? p = some v :=
  (World.cell?_of_block (h.block p.block (World.block_lt_of_cell? V p hc) (fun f => f))).trans hc
theorem Kpt.cells (h : Kpt (fun _ => False) V W) {p : Addr} {cs : List Value} (hc : ∀ j v, cs[j]? = some v → V.cell? (p.add j) = some v) : ∀ j v, cs[j]? = some v → W.cell? (p.add j) = some v := fun j v hv => h.cell (hc j v hv)
theorem Kpt.tr (h : Kpt N V W) (k : Kpt (fun _ => False) W W') : Kpt N V W' := h.trans k (fun _ f => f.elim)
theorem Kpt.trN (h : Kpt N V W) (k : Kpt N W W') : Kpt N V W' := h.trans k (fun _ f => .inl f)
theorem Kpt.cellN (h : Kpt N V W) {p : Addr} {v : Value} (hn : ¬ N p.block) (hc : V.cell? p = some v) : W.cell? p = some v :=
  (World.cell?_of_block (h.block p.block (World.block_lt_of_cell? V p hc) hn)).trans hc
/-- What was there ahead of all is no entry's. -/
theorem St.oldK (HS : St W0 (owns []) V L) {i : Nat} {e : Ent} (hi : L[i]? = some e) (hk : Kpt e.own V W) {p : Addr} {v : Value} (hc : W0.cell? p = some v) : W.cell? p = some v :=
  hk.cellN (fun ho => by
    have h1 := ((HS.has e (List.mem_of_getElem? hi)).2 _ ho).2
    have h2 := World.block_lt_of_cell? W0 p hc
    exact h1.elim (owns_nil _) (fun h3 => by omega)) (HS.old0 hc)
theorem St.oldKN (HS : St W0 (owns []) V L) {i : Nat} {e : Ent} (hi : L[i]? = some e) (hk : Kpt e.own V W) {p : Addr} {cs : List Value} (h : ∀ j v, cs[j]? = some v → W0.cell? (p.add j) = some v) : ∀ j v, cs[j]? = some v → W.cell? (p.add j) = some v := fun j v hv => HS.oldK hi hk (h j v hv)
theorem St.sepB (HS : St W0 M V L) {a b g t : Nat} {cs : List Value} {e : Ent} (hab : a ≠ b) (ha : L[a]? = some (blk g cs t)) (hb : L[b]? = some e) : ¬ e.own g := by
  have hne := List.pairwise_iff_getElem.1 HS.ne
  obtain ⟨h1, e1⟩ := List.getElem?_eq_some_iff.1 ha
  obtain ⟨h2, e2⟩ := List.getElem?_eq_some_iff.1 hb
  intro ho
  rcases Nat.lt_or_gt_of_ne hab with h | h
  · exact hne a b h1 h2 h g (by rw [e1]; rfl) (by rw [e2]; exact ho)
  · exact hne b a h2 h1 h g (by rw [e2]; exact ho) (by rw [e1]; rfl)
theorem St.sepR (HS : St W0 M V L) {a b g n c t z : Nat} {cs : List Value} {e : Ent} (hab : a ≠ b) (ha : L[a]? = some (row (some ⟨g, 0, none⟩) n c cs t z)) (hb : L[b]? = some e) : ¬ e.own g := by
  have hne := List.pairwise_iff_getElem.1 HS.ne
  obtain ⟨h1, e1⟩ := List.getElem?_eq_some_iff.1 ha
  obtain ⟨h2, e2⟩ := List.getElem?_eq_some_iff.1 hb
  intro ho
  rcases Nat.lt_or_gt_of_ne hab with h | h
  · exact hne a b h1 h2 h g (by rw [e1]; rfl) (by rw [e2]; exact ho)
  · exact hne b a h2 h1 h g (by rw [e2]; exact ho) (by rw [e1]; rfl)
theorem t_start {id : Nat} {ol : List Oper} (HS : St W0 M W L) (N : Nat → Prop) (n : Nat) (hm : P.follows .mixedOrders = true) (hn : ol.toArray.size = n)
    (h : ∀ V, St W0 M V L → Kpt (fun _ => False) W V → TA P ol.toArray Q N V n (Array.replicate n false) (Fr l) V) : (Code.region id ol.toArray true).wp P Q (Fr l) W := by
  subst hn
  exact wp_region_held hm (h _ (HS.drew _) (.drew _ _))
theorem t_q (i : Nat) (v : Value) (hi : ops[i]? = some ⟨some d, op, ty, ps, af, gd⟩) (hc : (Region.noSelect ops && Region.free .any ops ls i && (Region.ready .any ops ls).contains i) = true)
    (hw : Region.wanted ⟨some d, op, ty, ps, af, gd⟩ (yielded ops (Fr l).tmps) = true) (hQ : ∀ c a w, Q (.panic c) (a.put (some d) v) w → Q (.panic c) a w)
    (hr : ∀ w', Kpt N V w' → (execOp (Fr l).eval ⟨some d, op, ty, ps, af, gd⟩).run P w' = .ok (.value v) w') (hk : Kpt N V W)
    (h : TA P ops Q N V n (ls.setIfInBounds i true) (Fr (l.set d v)) W) : TA P ops Q N V (n + 1) ls (Fr l) W := by
  simp only [Bool.and_eq_true] at hc
  refine wpAnyH_take hi hc.1.1 hc.1.2 hc.2 hQ (.inl ⟨hw, fun w' hk' => hr w' hk'⟩) hk ?_
  show wpAnyH _ _ _ _ _ _ _ ((Fr l).put (some d) v) _
  rw [Fr_put]; exact h
theorem t_qn (i : Nat) (hi : ops[i]? = some ⟨some d, op, ty, ps, af, gd⟩) (hc : (Region.noSelect ops && Region.free .any ops ls i && (Region.ready .any ops ls).contains i) = true)
    (hw : Region.wanted ⟨some d, op, ty, ps, af, gd⟩ (yielded ops (Fr l).tmps) = false) (hQ : ∀ c a w, Q (.panic c) (a.put (some d) undef) w → Q (.panic c) a w) (hk : Kpt N V W)
    (h : TA P ops Q N V n (ls.setIfInBounds i true) (Fr (l.set d undef)) W) : TA P ops Q N V (n + 1) ls (Fr l) W := by
  simp only [Bool.and_eq_true] at hc
  refine wpAnyH_take hi hc.1.1 hc.1.2 hc.2 hQ (.inr ⟨hw, rfl⟩) hk ?_
  show wpAnyH _ _ _ _ _ _ _ ((Fr l).put (some d) undef) _
  rw [Fr_put]; exact h
theorem t_one (i : Nat) (hr : Region.ready .any ops ls = [i]) (h : wpOp P ops Q i (fun a' w' => Kpt N V w' ∧ TA P ops Q N V n (ls.setIfInBounds i true) a' w') (Fr l) W) : TA P ops Q N V (n + 1) ls (Fr l) W :=
  wpAnyH_all hr (by simp) (fun j hj => by rw [List.mem_singleton] at hj; subst hj; exact h)
/-- What is alone: it gives a value. -/
theorem t_e (i : Nat) (v : Value) (hi : ops[i]? = some ⟨some d, op, ty, ps, af, gd⟩) (hr : Region.ready .any ops ls = [i]) (hw : Region.wanted ⟨some d, op, ty, ps, af, gd⟩ (yielded ops (Fr l).tmps) = true)
    (hrun : (execOp (Fr l).eval ⟨some d, op, ty, ps, af, gd⟩).run P W = .ok (.value v) W') (hk : Kpt N V W') (h : TA P ops Q N V n (ls.setIfInBounds i true) (Fr (l.set d v)) W') : TA P ops Q N V (n + 1) ls (Fr l) W := by
  refine t_one i hr ?_
  unfold wpOp; rw [hi]; simp only; rw [if_pos hw]
  left; unfold Oper.wp; rw [hrun]
  exact ⟨hk, (Fr_put l d v) ▸ h⟩
theorem t_c (i : Nat) {f : FuncId} {args : Array Value} (hi : ops[i]? = some ⟨some d, op, ty, ps, af, gd⟩) (hr : Region.ready .any ops ls = [i]) (hw : Region.wanted ⟨some d, op, ty, ps, af, gd⟩ (yielded ops (Fr l).tmps) = true)
    (hrun : (execOp (Fr l).eval ⟨some d, op, ty, ps, af, gd⟩).run P W = .ok (.enter f args) W) (h : Calls P f args W fun e w' => ∃ v, e = .returned v ∧ Kpt N V w' ∧ TA P ops Q N V n (ls.setIfInBounds i true) (Fr (l.set d v)) w') : TA P ops Q N V (n + 1) ls (Fr l) W := by
  refine t_one i hr ?_
  unfold wpOp; rw [hi]; simp only; rw [if_pos hw]
  left; unfold Oper.wp; rw [hrun]
  refine h.mono ?_
  rintro e w' ⟨v, rfl, hk, hv⟩
  exact ⟨hk, (Fr_put l d v) ▸ hv⟩
/-- One of two that may come up. -/
theorem t_pick2 (i j : Nat) (hr : Region.ready .any ops ls = [i, j]) (hi : wpOp P ops Q i (fun a' w' => Kpt N V w' ∧ TA P ops Q N V n (ls.setIfInBounds i true) a' w') (Fr l) W) (hj : wpOp P ops Q j (fun a' w' => Kpt N V w' ∧ TA P ops Q N V n (ls.setIfInBounds j true) a' w') (Fr l) W) : TA P ops Q N V (n + 1) ls (Fr l) W :=
  wpAnyH_all hr (by simp) (fun k hk => by
    rcases List.mem_cons.1 hk with rfl | hk
    · exact hi
    · rw [List.mem_singleton] at hk; subst hk; exact hj)
theorem t_e2 (i : Nat) (v : Value) (hi : ops[i]? = some ⟨some d, op, ty, ps, af, gd⟩) (hw : Region.wanted ⟨some d, op, ty, ps, af, gd⟩ (yielded ops (Fr l).tmps) = true)
    (hrun : (execOp (Fr l).eval ⟨some d, op, ty, ps, af, gd⟩).run P W = .ok (.value v) W') (hk : Kpt N V W') (h : TA P ops Q N V n (ls.setIfInBounds i true) (Fr (l.set d v)) W') : wpOp P ops Q i (fun a' w' => Kpt N V w' ∧ TA P ops Q N V n (ls.setIfInBounds i true) a' w') (Fr l) W := by
  unfold wpOp; rw [hi]; simp only; rw [if_pos hw]
  left; unfold Oper.wp; rw [hrun]
  exact ⟨hk, (Fr_put l d v) ▸ h⟩
/-- A store. -/
theorem t_s (i : Nat) (hi : ops[i]? = some ⟨none, op, ty, ps, af, gd⟩) (hr : Region.ready .any ops ls = [i]) (hw : Region.wanted ⟨none, op, ty, ps, af, gd⟩ (yielded ops (Fr l).tmps) = true)
    (hrun : (execOp (Fr l).eval ⟨none, op, ty, ps, af, gd⟩).run P W = .ok .skip W') (hk : Kpt N V W') (h : TA P ops Q N V n (ls.setIfInBounds i true) (Fr l) W') : TA P ops Q N V (n + 1) ls (Fr l) W := by
  refine t_one i hr ?_
  unfold wpOp; rw [hi]; simp only; rw [if_pos hw]
  left; unfold Oper.wp; rw [hrun]
  exact ⟨hk, h⟩
theorem ex_kr {t : TypeId} {x y : Operand} {v : Value} (HS : St W0 M W L) (i : Nat) {g m c tb z : Nat} {cs : List Value} (hi : L[i]? = some (row (some ⟨g, 0, none⟩) m c cs tb z)) (j : Nat) (news : List Value)
    (hx : (Fr l).eval x = .pointer (some ⟨g, j, none⟩)) (hy : (Fr l).eval y = v) (hv : v.cells = news.toArray) (hn : (P.info? t).map (·.size) = some news.length) (h1 : ∀ u ∈ news, u.oneCell' = true) (hfit : j + news.length ≤ cs.length) :
    ∃ W', (execOp (Fr l).eval ⟨none, .store t x y, ty, ps, af, gd⟩).run P W = .ok .skip W' ∧ St W0 M W' (L.set i (row (some ⟨g, 0, none⟩) m c (splice cs j news) tb z)) ∧ Kpt (fun k => k = g) W W' := by
  obtain ⟨cur, hg, hle, HS2⟩ := HS.setRow_ hi j news hfit
  exact ⟨_, R_store news hg hx hy hv hn h1 (by omega), HS2, .setRow _ _ _ rfl⟩
theorem ex_ks {t : TypeId} {x y : Operand} {v : Value} (HS : St W0 M W L) (i : Nat) {g tb : Nat} {cs : List Value} (hi : L[i]? = some (blk g cs tb)) (j : Nat) (news : List Value)
    (hx : (Fr l).eval x = .pointer (some ⟨g, j, none⟩)) (hy : (Fr l).eval y = v) (hv : v.cells = news.toArray) (hn : (P.info? t).map (·.size) = some news.length) (h1 : ∀ u ∈ news, u.oneCell' = true) (hfit : j + news.length ≤ cs.length) :
    ∃ W', (execOp (Fr l).eval ⟨none, .store t x y, ty, ps, af, gd⟩).run P W = .ok .skip W' ∧ St W0 M W' (L.set i (blk g (splice cs j news) tb)) ∧ Kpt (fun k => k = g) W W' :=
  ⟨_, R_store news (HS.blkE hi) hx hy hv hn h1 hfit, HS.setBlk hi, .setRow _ _ _ rfl⟩
theorem row_own {g m c t z k : Nat} {cs : List Value} (h : k = g) : (row (some ⟨g, 0, none⟩) m c cs t z).own k := by subst h; rfl
theorem blk_own {g t k : Nat} {cs : List Value} (h : k = g) : (blk g cs t).own k := h
theorem t_done (hr : Region.ready .any ops ls = []) (h : Q .normal (Fr l) W) : TA P ops Q N V n ls (Fr l) W := wpAnyH_done hr h n
theorem ex_blk (HS : St W0 M W L) (cs : List Value) (t : Nat) : ∃ g W', g = W.heap.size ∧ W' = W.alloc (.cells cs.toArray t) ∧ St W0 M W' (blk g cs t :: L) ∧ Kpt (fun _ => False) W W' := ⟨_, _, rfl, rfl, HS.newBlk cs t, .alloc _ _⟩
theorem ex_lit (HS : St W0 M W L) (n : Nat) (cs : List Value) (t z : Nat) (h1 : cs.length = n * z) (h2 : n ≤ 140737488355327) : ∃ g W', g = W.heap.size ∧ W' = W.alloc (.cells cs.toArray t) ∧ St W0 M W' (row (some ⟨g, 0, none⟩) n n cs t z :: L) ∧ Kpt (fun _ => False) W W' :=
  ⟨_, _, rfl, rfl, HS.newRow n n cs cs t z h1 h1 (Nat.le_refl _) (by unfold maxLen; omega) (List.take_of_length_le (by omega)), .alloc _ _⟩
theorem ex_make {t : TypeId} {x y : Operand} {e : Nat} {k1 k2 : IntKind} (HS : St W0 M W L) (n : Nat) (zs : List Value) (by_ : Nat)
    (hx : (Fr l).eval x = .int k1 (n : Int)) (hy : (Fr l).eval y = .int k2 (n : Int)) (ht : P.underlying t = some (.slice e)) (hz : ((P.info? e).bind (·.zero)).map (·.cells) = some zs.toArray) (hs : (P.info? e).map (·.size) = some zs.length) (hb : (P.info? e).map (·.bytes) = some by_) (h0 : 0 < zs.length) (hn : n ≤ 140737488355327) (hm : by_ * n ≤ 281474976710656) :
    ∃ g W', (execOp (Fr l).eval ⟨dst, .makeSlice t x y, ty, ps, af, gd⟩).run P W = .ok (.value (.slice (some ⟨g, 0, none⟩) n n)) W' ∧ St W0 M W' (row (some ⟨g, 0, none⟩) n n ((List.replicate n zs).flatten) e zs.length :: L) ∧ Kpt (fun _ => False) W W' := by
  obtain ⟨i, zv, hi, hzv, hc⟩ := zeroV hz
  rw [hi] at hs hb
  have hs' : i.size = zs.length := by simpa using hs
  have hb' : i.bytes = by_ := by simpa using hb
  have hr := run_make (P := P) W t e i zv ht hi hzv k1 k2 (n : Int) (n : Int) (by omega) (Int.le_refl _) (by rw [hb', ← Int.natCast_mul]; omega) (by omega)
  rw [hc, hs', Int.toNat_natCast, madeCells_list zs n h0] at hr
  refine ⟨W.heap.size, W.alloc (.cells ((List.replicate n zs).flatten).toArray e), ?_, HS.newRow n n _ _ e zs.length (by simp) (by simp) (Nat.le_refl _) (by unfold maxLen; omega) (List.take_of_length_le (by simp)), .alloc _ _⟩
  simp [execOp, hx, hy, hr]
end
theorem Kpt.nil {a b : World} (h : Kpt (owns []) a b) : Kpt (fun _ => False) a b := ⟨h.os, h.tape, h.output, h.size, fun k hk _ => h.block k hk (owns_nil k)⟩
section
variable {P : Program} {l : List Value} {W W0 : World} {M : Nat → Prop} {L : List Ent} {ty : TypeId} {ps : String} {af : Array Edge} {gd : Option (Nat × Bool)} {dst : Option Nat}
theorem ex_append {t e : TypeId} {s x : Operand} (HS : St W0 M W L) (i : Nat) {n c z m : Nat} {A : Option Addr} {cs news : List Value} {xv : Value} (hi : L[i]? = some (row A n c cs e z)) (hsrc : Src W xv m z news) (zs : List Value) (by_ n' : Nat) (cs' : List Value) (hn : n + m = n') (hcs : cs ++ news = cs')
    (hs : (Fr l).eval s = .slice A n c) (hx : (Fr l).eval x = xv)
    (ht : P.underlying t = some (.slice e)) (hz : ((P.info? e).bind (·.zero)).map (·.cells) = some zs.toArray) (hzl : zs.length = z) (hsz : (P.info? e).map (·.size) = some z) (hb : (P.info? e).map (·.bytes) = some by_) (h0 : 0 < z) (h63 : n' ≤ 140737488355327) (hbytes : n' * by_ ≤ 140737488355328) :
    ∃ A' c' W', (execOp (Fr l).eval ⟨dst, .call { callee := .builtin .append, args := #[s, x], argTypes := #[t, t] }, ty, ps, af, gd⟩).run P W = .ok (.value (.slice A' n' c')) W' ∧ St W0 M W' (L.set i (row A' n' c' cs' e z)) ∧ Kpt (row A n c cs e z).own W W' := by
  subst hn; subst hcs
  obtain ⟨A', c', W', hrun, HS', hk⟩ := append_own (ty' := ty) HS hi zs by_ hsrc ht hz hzl hsz hb h0 h63 hbytes
  exact ⟨A', c', W', R_append hs hx hrun, HS', hk⟩
end
theorem wp_seq_cut {P : Program} {Q : Exit → Act → World → Prop} {x y : Code} {a : Act} {w : World} (I : Act → World → Prop) (h1 : x.wp P (Exit.then I Q) a w) (h2 : ∀ a' w', I a' w' → y.wp P Q a' w') : (Code.seq x y).wp P Q a w :=
  wp_seq (Code.wp_mono (fun e a' w' h => by
    cases e with
    | normal => exact h2 a' w' h
    | exit id => exact h
    | goto l => exact h
    | ret => exact h
    | panic ch => exact h
    | outgrown => exact h) h1)

end Go.Proofs.Ytnabbhcagonlkaa.GStackTurns
