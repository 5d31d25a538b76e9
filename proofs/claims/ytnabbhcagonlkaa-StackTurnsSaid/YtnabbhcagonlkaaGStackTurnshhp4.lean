/- Written for this claim by gp.py, a program of this session's, over the kit's print. Lean checks it. -/
import Derived.Test.YtnabbhcagonlkaaGStackTurnsx0
import Derived.Test.YtnabbhcagonlkaaGStackTurnshhp1
import Derived.Test.YtnabbhcagonlkaaGStackTurnshhp2
import Derived.WalkKit
import Derived.StillTailTactics
import Derived.Deep.LoopGhost
import Derived.KernelRfl
import Derived.Deep.OwnRows
import Derived.Laws.OwnMore
import Derived.Laws.MakeOwn
import Derived.Maps.AppendAt
import Derived.OrdersHeld
import Derived.Maps.OwnSet
import Derived.Maps.Keyed
import Derived.Maps.Views
import Derived.Laws.CopyRow
import Derived.Laws.IdiomCopy
import Derived.Laws.Entries
namespace Go.Proofs.Ytnabbhcagonlkaa.GStackTurns
open Go.RowKit Go.Proofs.YtnabbhcagonlkaaW.PrintWords Go.Proofs.YtnabbhcagonlkaaW.PrintLast Go.Proofs.YtnabbhcagonlkaaW.PrintMore
attribute [local go_sem] max2_int min2_int max_two min_two max_three min_three max_four min_four   -- for this text's walks alone
set_option linter.unusedVariables false
set_option linter.unusedSimpArgs false

--import Derived.WalkKit
--import Derived.StillTailTactics
--import Derived.Deep.LoopGhost
--import Derived.KernelRfl
--import Derived.Deep.OwnRows
--import Derived.Laws.OwnMore
--import Derived.Laws.MakeOwn
--import Derived.Maps.AppendAt
--import Derived.OrdersHeld
--import Derived.Maps.OwnSet
--import Derived.Maps.Keyed
--import Derived.Maps.Views
--import Derived.Laws.CopyRow
--import Derived.Laws.IdiomCopy
--import Derived.Laws.Entries
/-! ### maps of whole numbers -/
section
variable {P : Program} {ops : Array Oper} {Q : Exit → Act → World → Prop} {R : Act → Prop} {rest : List Oper} {a : Act} {l : List Value} {W W' W0 : World} {M : Nat → Prop} {L : List Ent} {v : Value} {op : Op} {d : Nat} {ty : TypeId} {ps : String} {af : Array Edge} {gd : Option (Nat × Bool)} {dst : Option Nat}
open Classical in
noncomputable def fset (F : Lit → Int) (k : Lit) (v : Int) : Lit → Int := fun x => if x = k then v else F x
theorem fset_same (F : Lit → Int) (k : Lit) (v : Int) : fset F k v k = v := by unfold fset; rw [if_pos rfl]
theorem fset_other (F : Lit → Int) {k x : Lit} (v : Int) (h : x ≠ k) : fset F k v x = F x := by unfold fset; rw [if_neg h]
/-- A map of whole numbers, of at most n entries. -/
def mp (P : Program) (k e : TypeId) (b n : Nat) (F : Lit → Int) : Ent :=
  ⟨fun j => j = b, fun W => ∃ D : DataW Unit, W.ownsMap P k (plainElem P e) b n D ∧ Maps.IsMap D ∧ ∀ kl, D.atKey kl (.lit (.int .i64 0)) = .lit (.int .i64 (F kl)), fun W W' h ⟨D, ⟨es, clock, hb, rest⟩, hm, hF⟩ => ⟨D, ⟨es, clock, (h b rfl).trans hb, rest⟩, hm, hF⟩⟩
theorem R_lookupM {k e t b n : Nat} {F : Lit → Int} {m x : Operand} {key : Value} {kl : Lit} (HS : St W0 M W L) {i : Nat} (hi : L[i]? = some (mp P k e b n F)) (K : Maps.Keyed P k) (ht : P.underlying t = some (.map k e)) (he : P.underlying e = some (.int .i64)) (hz : (zeroValue e).run P W = .ok (.int .i64 0) W)
    (hm : a.eval m = .map (some b)) (hx : a.eval x = key) (hkey : keyOf P k key = some kl) : (execOp a.eval ⟨dst, .lookup t m x false, ty, ps, af, gd⟩).run P W = .ok (.value (.int .i64 (F kl))) W := by
  obtain ⟨D, hD, _, hF⟩ := HS.get hi
  obtain ⟨c, hrun, hat, _⟩ := hD.lookup_int K ht he hz hkey
  have hc : c = F kl := by
    have := hat.symm.trans (hF kl)
    injection this with h1; injection h1
  subst hc
  simp [execOp, hm, hx, hrun]
theorem qkv (hw : Region.wanted ⟨none, op, ty, ps, af, gd⟩ (yielded ops (Fr l).tmps) = true) (hr : (execOp (Fr l).eval ⟨none, op, ty, ps, af, gd⟩).run P W = .ok (.value v) W')
    (h : wpList P ops Q rest (Fr l) W') : wpList P ops Q (⟨none, op, ty, ps, af, gd⟩ :: rest) (Fr l) W := by
  refine wpList_step fun K hK => ?_
  rw [if_pos hw]; unfold Oper.wp; rw [hr]
  exact hK _ _ h
theorem St.setMap (HS : St W0 M W L) {k e b n n' i : Nat} {F F' : Lit → Int} (hi : L[i]? = some (mp P k e b n F)) (hg : W.grownBy W' (some b)) (hP : (mp P k e b n' F').P W') : St W0 M W' (L.set i (mp P k e b n' F')) := by
  have hlt := HS.lt hi (k := b) rfl
  exact HS.upd hi (Kpt.of_grown hg (fun k hk => by injection hk with hk; exact hk.symm)) hP (fun k hk => ⟨.inl hk, by cases hk; exact Nat.lt_of_lt_of_le hlt hg.size⟩)
/-- m[k] = v -/
theorem kmu {k e t b n : Nat} {F : Lit → Int} {m x y : Operand} {key : Value} {kl : Lit} {u : Int} (HS : St W0 M W L) (i : Nat) (hi : L[i]? = some (mp P k e b n F)) (K : Maps.Keyed P k) (ht : P.underlying t = some (.map k e)) (he : P.underlying e = some (.int .i64)) (hn : n < maxLen)
    (hw : Region.wanted ⟨none, .mapUpdate t m x y, ty, ps, af, gd⟩ (yielded ops (Fr l).tmps) = true) (hm : (Fr l).eval m = .map (some b)) (hx : (Fr l).eval x = key) (hy : (Fr l).eval y = .int .i64 u) (hu : (Lit.int .i64 u).wf = true) (hkey : keyOf P k key = some kl)
    (h : ∀ W', St W0 M W' (L.set i (mp P k e b (n + 1) (fset F kl u))) → wpList P ops Q rest (Fr l) W') : wpList P ops Q (⟨none, .mapUpdate t m x y, ty, ps, af, gd⟩ :: rest) (Fr l) W := by
  obtain ⟨D, hD, hM, hF⟩ := HS.get hi
  obtain ⟨w', hrun, hD', hg⟩ := hD.update K ht hn hkey (plainElem_int he hu)
  refine qk (W' := w') hw (by simp [execOp, hm, hx, hy, hrun]) (h w' (HS.setMap hi hg ⟨_, hD', hM.put _ _, fun x => ?_⟩))
  by_cases e : x = kl
  · subst e; rw [Maps.atKey_put_same hM (K.key hkey), fset_same]
  · rw [Maps.atKey_put_other e, fset_other F u e]; exact hF x
/-- delete(m, k) -/
theorem kmd {k e t b n : Nat} {F : Lit → Int} {m x : Operand} {key : Value} {kl : Lit} (HS : St W0 M W L) (i : Nat) (hi : L[i]? = some (mp P k e b n F)) (K : Maps.Keyed P k) (ht : P.underlying t = some (.map k e))
    (hw : Region.wanted ⟨none, .call { callee := .builtin .delete, args := #[m, x], argTypes := #[t, k] }, ty, ps, af, gd⟩ (yielded ops (Fr l).tmps) = true) (hm : (Fr l).eval m = .map (some b)) (hx : (Fr l).eval x = key) (hkey : keyOf P k key = some kl)
    (h : ∀ W', St W0 M W' (L.set i (mp P k e b n (fset F kl 0))) → wpList P ops Q rest (Fr l) W') : wpList P ops Q (⟨none, .call { callee := .builtin .delete, args := #[m, x], argTypes := #[t, k] }, ty, ps, af, gd⟩ :: rest) (Fr l) W := by
  obtain ⟨D, hD, hM, hF⟩ := HS.get hi
  obtain ⟨w', hrun, hD', hg⟩ := hD.drop K ht hkey ty
  refine qkv (W' := w') (v := .tuple #[]) hw (by simp [execOp, resolve, invoke, builtin, hm, hx, hrun]) (h w' (HS.setMap hi hg.grown ⟨_, hD', hM.del _, fun x => ?_⟩))
  by_cases e : x = kl
  · subst e; rw [Maps.atKey_del_same, fset_same]
  · rw [Maps.atKey_del_other e, fset_other F 0 e]; exact hF x
/-- make(map) -/
theorem kmm {t : Nat} (HS : St W0 M W L) (k e : TypeId) (hw : Region.wanted ⟨some d, .makeMap t none, ty, ps, af, gd⟩ (yielded ops (Fr l).tmps) = true)
    (h : ∀ b W', St W0 M W' (mp P k e b 0 (fun _ => 0) :: L) → wpList P ops Q rest (Fr (l.set d (.map (some b)))) W') : wpList P ops Q (⟨some d, .makeMap t none, ty, ps, af, gd⟩ :: rest) (Fr l) W := by
  refine qw (W' := W.alloc (.map #[] 0)) (.map (some W.heap.size)) hw (by simp [execOp, Instr.makeMap]) (h _ _ (HS.new (.alloc _ _) ⟨_, World.ownsMap_made W P k _, ⟨[], rfl⟩, fun _ => rfl⟩ (fun j hj => ?_)))
  cases hj
  exact ⟨Nat.le_refl _, by simp⟩
end
/-! ### pieces of rows, copies, remainders -/
theorem add_add_ (a : Addr) (m n : Nat) : (a.add m).add n = a.add (m + n) := by
  unfold Addr.add
  by_cases h : m = 0 <;> by_cases h2 : n = 0 <;> simp_all [Nat.add_assoc]
theorem cutA_blk {g N k : Nat} (h : k < N) : cutA (some ⟨g, 0, none⟩) N k 1 = some ⟨g, k, none⟩ := by
  unfold cutA
  rw [if_neg (by omega), Option.map_some, Nat.mul_one]
  unfold Addr.add
  split <;> simp_all
section
variable {P : Program} {ops : Array Oper} {Q : Exit → Act → World → Prop} {R : Act → Prop} {rest : List Oper} {a : Act} {l : List Value} {W W' W0 : World} {M : Nat → Prop} {L : List Ent} {v : Value} {op : Op} {d : Nat} {ty : TypeId} {ps : String} {af : Array Edge} {gd : Option (Nat × Bool)} {dst : Option Nat}
theorem Src.head {A : Option Addr} {n c m : Nat} {cs : List Value} (h : Src W (.slice A n c) n 1 cs) (hm : m ≤ n) : Src W (.slice A m c) m 1 (cs.take m) := by
  have hl := h.len
  refine ⟨?_, by rw [List.length_take]; omega, fun u hu => h.one u (List.mem_of_mem_take hu)⟩
  obtain ⟨B, c', e, hB⟩ := h.val
  cases e
  refine ⟨_, _, rfl, ?_⟩
  rcases hB with ⟨e, h0⟩ | ⟨ad, e, hc⟩
  · exact .inl ⟨e, by omega⟩
  · refine .inr ⟨ad, e, fun j u hu => hc j u ?_⟩
    by_cases hj : j < m
    · rwa [List.getElem?_take_of_lt hj] at hu
    · rw [List.getElem?_eq_none (by rw [List.length_take]; omega)] at hu; cases hu
theorem Src.tail {A : Option Addr} {n c m : Nat} {cs : List Value} (h : Src W (.slice A n c) n 1 cs) (hm : m ≤ n) (hc : n ≤ c) : Src W (.slice (cutA A c m 1) (n - m) (c - m)) (n - m) 1 (cs.drop m) := by
  have hl := h.len
  refine ⟨?_, by rw [List.length_drop]; omega, fun u hu => h.one u (List.mem_of_mem_drop hu)⟩
  obtain ⟨B, c', e, hB⟩ := h.val
  cases e
  refine ⟨_, _, rfl, ?_⟩
  rcases hB with ⟨e, h0⟩ | ⟨ad, e, hc2⟩
  · exact .inl ⟨by unfold cutA; rw [e]; split <;> rfl, by omega⟩
  · subst e
    unfold cutA
    by_cases hcm : c = m
    · rw [if_pos hcm]
      refine .inr ⟨ad, rfl, fun j u hu => ?_⟩
      rw [List.getElem?_eq_none (by rw [List.length_drop]; omega)] at hu; cases hu
    · rw [if_neg hcm]
      refine .inr ⟨_, rfl, fun j u hu => ?_⟩
      rw [List.getElem?_drop] at hu
      rw [Nat.mul_one, add_add_]
      exact hc2 _ u hu
/-- copy(x, y) into a row of one's own; all of y goes over. -/
theorem kcp {t e' : TypeId} {x y : Operand} (HS : St W0 M W L) (i : Nat) {g n c e : Nat} {cs news : List Value} (hi : L[i]? = some (row (some ⟨g, 0, none⟩) n c cs e 1)) (o dl dc : Nat) {sv : Value} {m : Nat} (hsrc : Src W sv m 1 news) (hm : m ≤ dl) (hfit : o + m ≤ cs.length)
    (hw : Region.wanted ⟨some d, .call { callee := .builtin .copy, args := #[x, y], argTypes := #[t, t] }, ty, ps, af, gd⟩ (yielded ops (Fr l).tmps) = true)
    (hx : (Fr l).eval x = .slice (some ⟨g, o, none⟩) dl dc) (hy : (Fr l).eval y = sv) (ht : P.underlying t = some (.slice e')) (hs : (P.info? e').map (·.size) = some 1)
    (h : ∀ W', St W0 M W' (L.set i (row (some ⟨g, 0, none⟩) n c (splice cs o news) e 1)) → wpList P ops Q rest (Fr (l.set d (.int .i64 m))) W') :
    wpList P ops Q (⟨some d, .call { callee := .builtin .copy, args := #[x, y], argTypes := #[t, t] }, ty, ps, af, gd⟩ :: rest) (Fr l) W := by
  obtain ⟨B, c2, rfl, hB⟩ := hsrc.val
  have hl : news.length = m := by have := hsrc.len; omega
  rcases hB with ⟨rfl, rfl⟩ | ⟨ad, rfl, hc⟩
  · have hn : news = [] := List.eq_nil_of_length_eq_zero hl
    subst hn
    refine qw (.int .i64 0) hw (by simp [execOp, resolve, invoke, builtin, hx, hy, run_copy_none W t t ty e' (some ⟨g, o, none⟩) none dl dc 0 c2 ht hs (by simp), goInt]) (h W ?_)
    rw [splice_eq _ _ _ (by simp; omega)]
    simp
    exact HS.turn hi id (fun _ h => h)
  · obtain ⟨cur, hg, hle, hst⟩ := HS.setRow_ hi o news (by omega)
    have hrun := run_copy_row P W t t ty e' g o dl dc ad m c2 cur.toArray e news ht hs hg (by rw [hl]; exact (Nat.min_eq_left hm).symm) hc (by simp; omega) hsrc.one
    rw [splice_eq _ _ _ (by omega), hl] at hst
    refine qw (.int .i64 m) hw ?_ (h _ hst)
    rw [hl] at hrun
    simp [execOp, resolve, invoke, builtin, hx, hy, hrun, goInt]
theorem R_rem {t t2 : TypeId} {x y : Operand} {i j : Nat} (hx : a.eval x = .int .i64 i) (hy : a.eval y = .int .i64 j) (h : 0 < j) (hi : i ≤ 9223372036854775807) : (execOp a.eval ⟨dst, .binOp .rem t x y t2, ty, ps, af, gd⟩).run P W = .ok (.value (.int .i64 ((i % j : Nat) : Int))) W := by
  have hj : ¬ ((j : Int) = 0) := by omega
  have e : ((i : Int).tmod (j : Int)) = ((i % j : Nat) : Int) := (Int.ofNat_tmod i j).symm
  have hd : (Op.intDiv .rem .i64 (i : Int) (j : Int)) = pure (.int .i64 ((i % j : Nat) : Int)) := by unfold Op.intDiv; rw [if_neg hj, e]
  simp [execOp, hx, hy, eqGuard_rem, binOp_rem, hd]
end
/-! ### a ring of whole numbers -/
def ring (bs : List Int) (f n : Nat) : List Int := (List.range n).map fun i => bs.getD ((f + i) % bs.length) 0
structure RQ (bs : List Int) (f n : Nat) (xs : List Int) : Prop where
  hn : n ≤ bs.length
  hf : 0 < bs.length → f < bs.length
  h0 : bs.length = 0 → f = 0
  hb : bs.length ≤ 4398046511104
  hx : xs = ring bs f n
theorem RQ.len {bs xs : List Int} {f n : Nat} (h : RQ bs f n xs) : xs.length = n := by rw [h.hx]; unfold ring; simp
theorem RQ.nil : RQ [] 0 0 [] := ⟨Nat.le_refl _, fun h => by simp at h, fun _ => rfl, by simp, rfl⟩
theorem RQ.grow {bs xs zs : List Int} {f n : Nat} (h : RQ bs f n xs) (hn : n = bs.length) {q : List Int} (hq : q = bs.drop f ++ bs.take f ++ zs) (hl : q.length ≤ 4398046511104) (h0 : 0 < q.length) : RQ q 0 n xs := by
  have hl2 : q.length = bs.length + zs.length := by
    rw [hq]; simp only [List.length_append, List.length_drop, List.length_take]
    have := h.hf; have := h.h0; omega
  refine ⟨by omega, fun _ => h0, fun _ => rfl, hl, ?_⟩
  rw [h.hx]
  unfold ring
  apply List.map_congr_left
  intro i hi
  have hi2 : i < n := by simpa using hi
  have hfb := h.hf (by omega)
  rw [Nat.zero_add, Nat.mod_eq_of_lt (a := i) (by omega), hq]
  simp only [List.getD_eq_getElem?_getD]
  congr 1
  by_cases hc : i < bs.length - f
  · rw [Nat.mod_eq_of_lt (by omega), List.append_assoc, List.getElem?_append_left (by rw [List.length_drop]; omega), List.getElem?_drop]
  · rw [Nat.mod_eq_sub_mod (by omega), Nat.mod_eq_of_lt (by omega), List.append_assoc, List.getElem?_append_right (by rw [List.length_drop]; omega), List.length_drop, List.getElem?_append_left (by rw [List.length_take]; omega), List.getElem?_take_of_lt (by omega)]
    congr 1
    omega
theorem RQ.push {bs xs : List Int} {f n : Nat} (h : RQ bs f n xs) (hn : n < bs.length) (v : Int) {q : List Int} (hq : q = bs.set ((f + n) % bs.length) v) : RQ q f (n + 1) (xs ++ [v]) := by
  have hl : q.length = bs.length := by rw [hq, List.length_set]
  have hfb := h.hf (by omega)
  have hm : (f + n) % bs.length < bs.length := Nat.mod_lt _ (by omega)
  refine ⟨by omega, fun _ => by omega, fun h2 => by omega, by have := h.hb; omega, ?_⟩
  rw [h.hx]
  unfold ring
  rw [List.range_succ, List.map_append, hl]
  congr 1
  · apply List.map_congr_left
    intro i hi
    have hi2 : i < n := by simpa using hi
    have hne : (f + n) % bs.length ≠ (f + i) % bs.length := by
      intro e
      by_cases h1 : f + n < bs.length
      · rw [Nat.mod_eq_of_lt h1, Nat.mod_eq_of_lt (by omega)] at e; omega
      · rw [Nat.mod_eq_sub_mod (by omega), Nat.mod_eq_of_lt (a := f + n - bs.length) (by omega)] at e
        by_cases h2 : f + i < bs.length
        · rw [Nat.mod_eq_of_lt h2] at e; omega
        · rw [Nat.mod_eq_sub_mod (by omega), Nat.mod_eq_of_lt (by omega)] at e; omega
    rw [hq]
    simp only [List.getD_eq_getElem?_getD]
    rw [List.getElem?_set_ne hne]
  · rw [hq]
    simp [hm]
theorem RQ.pop {bs xs : List Int} {f n : Nat} (h : RQ bs f n xs) (hn : 0 < n) {q : List Int} (hq : q = bs.set f 0) : xs = bs.getD f 0 :: xs.tail ∧ RQ q ((f + 1) % bs.length) (n - 1) xs.tail := by
  have hnb := h.hn
  have hfb := h.hf (by omega)
  have hl : q.length = bs.length := by rw [hq, List.length_set]
  obtain ⟨m, rfl⟩ : ∃ m, n = m + 1 := ⟨n - 1, by omega⟩
  have e1 : xs = bs.getD f 0 :: (List.range m).map (fun i => bs.getD ((f + (i + 1)) % bs.length) 0) := by
    rw [h.hx]
    unfold ring
    rw [List.range_succ_eq_map, List.map_cons, List.map_map, Nat.add_zero, Nat.mod_eq_of_lt hfb]
    rfl
  refine ⟨by rw [e1]; rfl, by omega, fun _ => by rw [hl]; exact Nat.mod_lt _ (by omega), fun h2 => by omega, by have := h.hb; omega, ?_⟩
  rw [e1, List.tail_cons]
  unfold ring
  rw [hl, Nat.add_sub_cancel]
  apply List.map_congr_left
  intro i hi
  have hi2 : i < m := by simpa using hi
  have e2 : ((f + 1) % bs.length + i) % bs.length = (f + (i + 1)) % bs.length := by rw [Nat.add_mod, Nat.mod_mod, ← Nat.add_mod]; congr 1; omega
  have hne : f ≠ (f + (i + 1)) % bs.length := by
    intro e
    by_cases h1 : f + (i + 1) < bs.length
    · rw [Nat.mod_eq_of_lt h1] at e; omega
    · rw [Nat.mod_eq_sub_mod (by omega), Nat.mod_eq_of_lt (by omega)] at e; omega
  rw [e2, hq]
  simp only [List.getD_eq_getElem?_getD]
  rw [List.getElem?_set_ne hne]
theorem ci_splice {k : IntKind} {xs ys : List Int} {o : Nat} (h : o + ys.length ≤ xs.length) : splice (ci k xs) o (ci k ys) = ci k (xs.take o ++ ys ++ xs.drop (o + ys.length)) := by
  rw [splice_eq _ _ _ (by rw [ci_len, ci_len]; exact h), ci_len]
  simp [ci, List.map_take, List.map_drop]
theorem ci_drop {k : IntKind} {xs : List Int} {m : Nat} : (ci k xs).drop m = ci k (xs.drop m) := by simp [ci, List.map_drop]
theorem ci_take' {k : IntKind} {xs : List Int} {m : Nat} : (ci k xs).take m = ci k (xs.take m) := by simp [ci, List.map_take]
theorem ring_copy {bs q1 q2 : List Int} {f m : Nat} (hf : f ≤ bs.length) (hm : bs.length ≤ m) (h1 : q1 = (List.replicate m (0 : Int)).take 0 ++ bs.drop f ++ (List.replicate m (0 : Int)).drop (0 + (bs.drop f).length)) (h2 : q2 = q1.take (bs.length - f) ++ bs.take f ++ q1.drop (bs.length - f + (bs.take f).length)) : q2 = bs.drop f ++ bs.take f ++ List.replicate (m - bs.length) 0 := by
  have e1 : q1 = bs.drop f ++ List.replicate (m - (bs.length - f)) 0 := by rw [h1]; simp
  have e2 : q1.take (bs.length - f) = bs.drop f := by rw [e1, List.take_append_of_le_length (by simp), List.take_of_length_le (by simp)]
  have e3 : q1.drop (bs.length - f + (bs.take f).length) = List.replicate (m - bs.length) 0 := by
    rw [e1, List.drop_append, List.drop_eq_nil_of_le (by simp), List.nil_append, List.drop_replicate]
    congr 1
    simp only [List.length_take, List.length_drop]
    omega
  rw [h2, e2, e3]
theorem take_rd {xs : List Int} {i : Int} (h0 : 0 ≤ i) (h1 : i < xs.length) : xs.take (i + 1).toNat = xs.take i.toNat ++ [rdI xs i] := by
  have h : i.toNat < xs.length := by omega
  rw [show (i + 1).toNat = i.toNat + 1 by omega, List.take_succ_eq_append_getElem h]
  unfold rdI
  rw [List.getD_eq_getElem?_getD, List.getElem?_eq_getElem h]
  rfl
section
variable {P : Program} {a : Act} {W : World} {dst : Option Nat} {ty : TypeId} {ps : String} {af : Array Edge} {gd : Option (Nat × Bool)}
theorem R_max {x y : Operand} {k : IntKind} {i j : Int} {ts : Array TypeId} (hx : a.eval x = .int k i) (hy : a.eval y = .int k j) :
    (execOp a.eval ⟨dst, .call { callee := .builtin .max, args := #[x, y], argTypes := ts }, ty, ps, af, gd⟩).run P W = .ok (.value (.int k (max i j))) W := by
  have e : (if i < j then j else i) = max i j := by split <;> omega
  simp [execOp, resolve, invoke, builtin, hx, hy, Builtin.max_, Builtin.max2, e]
end
/-! ### rows of texts -/
def cz (xs : List ByteArray) : List Value := xs.map Value.string
theorem cz_len (xs : List ByteArray) : (cz xs).length = xs.length := by simp [cz]
theorem cz_nil : cz [] = [] := rfl
theorem cz_one {xs : List ByteArray} : ∀ u ∈ cz xs, u.oneCell' = true := by
  intro u hu; simp only [cz, List.mem_map] at hu; obtain ⟨x, _, rfl⟩ := hu; rfl
def rdS (xs : List ByteArray) (i : Int) : ByteArray := xs.getD i.toNat ByteArray.empty
theorem cz_rd {xs : List ByteArray} {i : Int} (h0 : 0 ≤ i) (h1 : i < xs.length) : (cz xs)[i.toNat]? = some (.string (rdS xs i)) := by
  have h : i.toNat < xs.length := by omega
  simp [cz, rdS, h]
theorem rdS_eq {xs : List ByteArray} {i : Int} (h0 : 0 ≤ i) (h1 : i < xs.length) : xs[i.toNat]? = some (rdS xs i) := by
  have h : i.toNat < xs.length := by omega
  simp [rdS, h]
theorem cz_set (xs : List ByteArray) (j : Nat) (v : ByteArray) : splice (cz xs) j [.string v] = cz (xs.set j v) := by simp [splice, cz]
theorem cz_app (xs ys : List ByteArray) : cz (xs ++ ys) = cz xs ++ cz ys := by simp [cz]
theorem cz_rep (n : Nat) (x : ByteArray) : cz (List.replicate n x) = (List.replicate n [Value.string x]).flatten := by
  induction n with
  | zero => rfl
  | succ n ih => rw [List.replicate_succ, List.replicate_succ, List.flatten_cons, ← ih]; rfl
theorem cz_take (xs : List ByteArray) (n : Nat) : (cz xs).take (n * 1) = cz (xs.take n) := by simp [cz, List.map_take]
theorem cz_splice {xs ys : List ByteArray} {o : Nat} (h : o + ys.length ≤ xs.length) : splice (cz xs) o (cz ys) = cz (xs.take o ++ ys ++ xs.drop (o + ys.length)) := by
  rw [splice_eq _ _ _ (by rw [cz_len, cz_len]; exact h), cz_len]
  simp [cz, List.map_take, List.map_drop]
theorem cz_drop {xs : List ByteArray} {m : Nat} : (cz xs).drop m = cz (xs.drop m) := by simp [cz, List.map_drop]
theorem cz_take' {xs : List ByteArray} {m : Nat} : (cz xs).take m = cz (xs.take m) := by simp [cz, List.map_take]
/-! ### a ringS of whole numbers -/
def ringS (bs : List ByteArray) (f n : Nat) : List ByteArray := (List.range n).map fun i => bs.getD ((f + i) % bs.length) ByteArray.empty
structure RQS (bs : List ByteArray) (f n : Nat) (xs : List ByteArray) : Prop where
  hn : n ≤ bs.length
  hf : 0 < bs.length → f < bs.length
  h0 : bs.length = 0 → f = 0
  hb : bs.length ≤ 4398046511104
  hx : xs = ringS bs f n
theorem RQS.len {bs xs : List ByteArray} {f n : Nat} (h : RQS bs f n xs) : xs.length = n := by rw [h.hx]; unfold ringS; simp
theorem RQS.nil : RQS [] 0 0 [] := ⟨Nat.le_refl _, fun h => by simp at h, fun _ => rfl, by simp, rfl⟩
theorem RQS.grow {bs xs zs : List ByteArray} {f n : Nat} (h : RQS bs f n xs) (hn : n = bs.length) {q : List ByteArray} (hq : q = bs.drop f ++ bs.take f ++ zs) (hl : q.length ≤ 4398046511104) (h0 : 0 < q.length) : RQS q 0 n xs := by
  have hl2 : q.length = bs.length + zs.length := by
    rw [hq]; simp only [List.length_append, List.length_drop, List.length_take]
    have := h.hf; have := h.h0; omega
  refine ⟨by omega, fun _ => h0, fun _ => rfl, hl, ?_⟩
  rw [h.hx]
  unfold ringS
  apply List.map_congr_left
  intro i hi
  have hi2 : i < n := by simpa using hi
  have hfb := h.hf (by omega)
  rw [Nat.zero_add, Nat.mod_eq_of_lt (a := i) (by omega), hq]
  simp only [List.getD_eq_getElem?_getD]
  congr 1
  by_cases hc : i < bs.length - f
  · rw [Nat.mod_eq_of_lt (by omega), List.append_assoc, List.getElem?_append_left (by rw [List.length_drop]; omega), List.getElem?_drop]
  · rw [Nat.mod_eq_sub_mod (by omega), Nat.mod_eq_of_lt (by omega), List.append_assoc, List.getElem?_append_right (by rw [List.length_drop]; omega), List.length_drop, List.getElem?_append_left (by rw [List.length_take]; omega), List.getElem?_take_of_lt (by omega)]
    congr 1
    omega
theorem RQS.push {bs xs : List ByteArray} {f n : Nat} (h : RQS bs f n xs) (hn : n < bs.length) (v : ByteArray) {q : List ByteArray} (hq : q = bs.set ((f + n) % bs.length) v) : RQS q f (n + 1) (xs ++ [v]) := by
  have hl : q.length = bs.length := by rw [hq, List.length_set]
  have hfb := h.hf (by omega)
  have hm : (f + n) % bs.length < bs.length := Nat.mod_lt _ (by omega)
  refine ⟨by omega, fun _ => by omega, fun h2 => by omega, by have := h.hb; omega, ?_⟩
  rw [h.hx]
  unfold ringS
  rw [List.range_succ, List.map_append, hl]
  congr 1
  · apply List.map_congr_left
    intro i hi
    have hi2 : i < n := by simpa using hi
    have hne : (f + n) % bs.length ≠ (f + i) % bs.length := by
      intro e
      by_cases h1 : f + n < bs.length
      · rw [Nat.mod_eq_of_lt h1, Nat.mod_eq_of_lt (by omega)] at e; omega
      · rw [Nat.mod_eq_sub_mod (by omega), Nat.mod_eq_of_lt (a := f + n - bs.length) (by omega)] at e
        by_cases h2 : f + i < bs.length
        · rw [Nat.mod_eq_of_lt h2] at e; omega
        · rw [Nat.mod_eq_sub_mod (by omega), Nat.mod_eq_of_lt (by omega)] at e; omega
    rw [hq]
    simp only [List.getD_eq_getElem?_getD]
    rw [List.getElem?_set_ne hne]
  · rw [hq]
    simp [hm]
theorem RQS.pop {bs xs : List ByteArray} {f n : Nat} (h : RQS bs f n xs) (hn : 0 < n) {q : List ByteArray} (hq : q = bs.set f ByteArray.empty) : xs = bs.getD f ByteArray.empty :: xs.tail ∧ RQS q ((f + 1) % bs.length) (n - 1) xs.tail := by
  have hnb := h.hn
  have hfb := h.hf (by omega)
  have hl : q.length = bs.length := by rw [hq, List.length_set]
  obtain ⟨m, rfl⟩ : ∃ m, n = m + 1 := ⟨n - 1, by omega⟩
  have e1 : xs = bs.getD f ByteArray.empty :: (List.range m).map (fun i => bs.getD ((f + (i + 1)) % bs.length) ByteArray.empty) := by
    rw [h.hx]
    unfold ringS
    rw [List.range_succ_eq_map, List.map_cons, List.map_map, Nat.add_zero, Nat.mod_eq_of_lt hfb]
    rfl
  refine ⟨by rw [e1]; rfl, by omega, fun _ => by rw [hl]; exact Nat.mod_lt _ (by omega), fun h2 => by omega, by have := h.hb; omega, ?_⟩
  rw [e1, List.tail_cons]
  unfold ringS
  rw [hl, Nat.add_sub_cancel]
  apply List.map_congr_left
  intro i hi
  have hi2 : i < m := by simpa using hi
  have e2 : ((f + 1) % bs.length + i) % bs.length = (f + (i + 1)) % bs.length := by rw [Nat.add_mod, Nat.mod_mod, ← Nat.add_mod]; congr 1; omega
  have hne : f ≠ (f + (i + 1)) % bs.length := by
    intro e
    by_cases h1 : f + (i + 1) < bs.length
    · rw [Nat.mod_eq_of_lt h1] at e; omega
    · rw [Nat.mod_eq_sub_mod (by omega), Nat.mod_eq_of_lt (by omega)] at e; omega
  rw [e2, hq]
  simp only [List.getD_eq_getElem?_getD]
  rw [List.getElem?_set_ne hne]
theorem ringS_copy {bs q1 q2 : List ByteArray} {f m : Nat} (hf : f ≤ bs.length) (hm : bs.length ≤ m) (h1 : q1 = (List.replicate m ByteArray.empty).take 0 ++ bs.drop f ++ (List.replicate m ByteArray.empty).drop (0 + (bs.drop f).length)) (h2 : q2 = q1.take (bs.length - f) ++ bs.take f ++ q1.drop (bs.length - f + (bs.take f).length)) : q2 = bs.drop f ++ bs.take f ++ List.replicate (m - bs.length) ByteArray.empty := by
  have e1 : q1 = bs.drop f ++ List.replicate (m - (bs.length - f)) ByteArray.empty := by rw [h1]; simp
  have e2 : q1.take (bs.length - f) = bs.drop f := by rw [e1, List.take_append_of_le_length (by simp), List.take_of_length_le (by simp)]
  have e3 : q1.drop (bs.length - f + (bs.take f).length) = List.replicate (m - bs.length) ByteArray.empty := by
    rw [e1, List.drop_append, List.drop_eq_nil_of_le (by simp), List.nil_append, List.drop_replicate]
    congr 1
    simp only [List.length_take, List.length_drop]
    omega
  rw [h2, e2, e3]
theorem take_rdS {xs : List ByteArray} {i : Int} (h0 : 0 ≤ i) (h1 : i < xs.length) : xs.take (i + 1).toNat = xs.take i.toNat ++ [rdS xs i] := by
  have h : i.toNat < xs.length := by omega
  rw [show (i + 1).toNat = i.toNat + 1 by omega, List.take_succ_eq_append_getElem h]
  unfold rdS
  rw [List.getD_eq_getElem?_getD, List.getElem?_eq_getElem h]
  rfl
/-! ### a map or none; what is only read, of a block of its own -/
/-- A map of whole numbers, or none. -/
def mpo (P : Program) (k e : TypeId) (mv : Value) (n : Nat) (F : Lit → Int) : Ent :=
  ⟨fun j => mv = .map (some j), fun W => (mv = .map none ∧ ∀ x, F x = 0) ∨ ∃ b, mv = .map (some b) ∧ (mp P k e b n F).P W, fun W W' h hp => by
    rcases hp with hp | ⟨b, e1, hp⟩
    · exact .inl hp
    · exact .inr ⟨b, e1, (mp P k e b n F).loc W W' (fun j hj => h j (by have : j = b := hj; subst this; exact e1)) hp⟩⟩
theorem St.to_mpo {W0 W : World} {M : Nat → Prop} {L : List Ent} {P : Program} {k e : TypeId} {b n i : Nat} {F : Lit → Int} (HS : St W0 M W L) (hi : L[i]? = some (mp P k e b n F)) : St W0 M W (L.set i (mpo P k e (.map (some b)) n F)) :=
  HS.turn hi (fun hp => .inr ⟨b, rfl, hp⟩) (fun j hj => by have h2 : Value.map (some b) = .map (some j) := hj; cases h2; rfl)
theorem St.of_mpo {W0 W : World} {M : Nat → Prop} {L : List Ent} {P : Program} {k e : TypeId} {b n i : Nat} {F : Lit → Int} (HS : St W0 M W L) (hi : L[i]? = some (mpo P k e (.map (some b)) n F)) : St W0 M W (L.set i (mp P k e b n F)) :=
  HS.turn hi (fun hp => by
    rcases hp with ⟨h1, _⟩ | ⟨b', h1, h2⟩
    · cases h1
    · cases h1; exact h2) (fun j hj => by have : j = b := hj; subst this; rfl)
theorem St.mpo_none {W0 W : World} {M : Nat → Prop} {L : List Ent} {P : Program} {k e : TypeId} (HS : St W0 M W L) : St W0 M W (mpo P k e (.map none) 0 (fun _ => 0) :: L) :=
  HS.new (.refl _ _) (.inl ⟨rfl, fun _ => rfl⟩) (fun j hj => by have h2 : Value.map none = .map (some j) := hj; cases h2)
theorem St.mpo_case {W0 W : World} {M : Nat → Prop} {L : List Ent} {P : Program} {k e : TypeId} {n i : Nat} {mv : Value} {F : Lit → Int} (HS : St W0 M W L) (hi : L[i]? = some (mpo P k e mv n F)) : (mv = .map none ∧ ∀ x, F x = 0) ∨ ∃ b, mv = .map (some b) :=
  (HS.get hi).elim .inl (fun ⟨b, h, _⟩ => .inr ⟨b, h⟩)
/-- What is only read: cells from a place on; the place's block is one's own. -/
def rde (A : Option Addr) (cs : List Value) : Ent :=
  ⟨fun k => ∃ ad, A = some ad ∧ ad.block = k, fun W => Rd W A cs, fun W W' h hp j v hv => by
    obtain ⟨ad, e, hc⟩ := hp j v hv
    have hb : (ad.add j).block = ad.block := by unfold Addr.add; split <;> rfl
    exact ⟨ad, e, (World.cell?_of_block (by rw [hb]; exact h _ ⟨ad, e, rfl⟩)).trans hc⟩⟩
theorem St.to_rde {W0 W : World} {M : Nat → Prop} {L : List Ent} {i n c t z : Nat} {A : Option Addr} {cs : List Value} (HS : St W0 M W L) (hi : L[i]? = some (row A n c cs t z)) : St W0 M W (L.set i (rde A cs)) :=
  HS.turn hi (fun _ => Rd.row HS hi) (fun k ⟨ad, e, hk⟩ => by
    rcases (HS.rowE hi).2 with ⟨h, _⟩ | ⟨g, cap, cur, h, _⟩
    · cases h; cases e
    · cases h; cases e; exact congrArg some hk)
theorem St.rde_sub {W0 W : World} {M : Nat → Prop} {L : List Ent} {i : Nat} {A B : Option Addr} {cs ds : List Value} (HS : St W0 M W L) (hi : L[i]? = some (rde A cs)) (h : Rd W A cs → Rd W B ds) (ho : ∀ ad, B = some ad → ∃ ad', A = some ad' ∧ ad'.block = ad.block) : St W0 M W (L.set i (rde B ds)) :=
  HS.turn hi h (fun k ⟨ad, e, hk⟩ => by obtain ⟨ad', e', hb⟩ := ho ad e; exact ⟨ad', e', hb.trans hk⟩)
theorem cutA_own {A : Option Addr} {N k z : Nat} : ∀ ad, cutA A N k z = some ad → ∃ ad', A = some ad' ∧ ad'.block = ad.block := by
  intro ad h
  unfold cutA at h
  split at h
  · exact ⟨ad, h, rfl⟩
  · obtain ⟨ad', e, h2⟩ := Option.map_eq_some_iff.1 h
    exact ⟨ad', e, by rw [← h2]; unfold Addr.add; split <;> rfl⟩
theorem rd_cut {W : World} {A : Option Addr} {c m : Nat} {cs : List Value} (h : Rd W A cs) (hm : m ≤ c) (hl : cs.length ≤ c) : Rd W (cutA A c m 1) (cs.drop m) := by
  intro j v hv
  have hlt := (List.getElem?_eq_some_iff.1 hv).1
  rw [List.length_drop] at hlt
  rw [List.getElem?_drop] at hv
  obtain ⟨ad, e, hc⟩ := h _ v hv
  unfold cutA
  rw [if_neg (by omega), e]
  exact ⟨_, rfl, by rw [Nat.mul_one, add_add_]; exact hc⟩
theorem rd_takeC {W : World} {A : Option Addr} {cs : List Value} {m : Nat} (h : Rd W A cs) : Rd W A (cs.take m) := by
  intro j u hu
  have hlt := (List.getElem?_eq_some_iff.1 hu).1
  rw [List.length_take] at hlt
  rw [List.getElem?_take_of_lt (by omega)] at hu
  exact h j u hu
theorem St.oldKF {W0 V W : World} {F L : List Ent} (HS : St W0 (owns []) V (F ++ L)) (hk : Kpt (owns F) V W) {p : Addr} {v : Value} (hc : W0.cell? p = some v) : W.cell? p = some v :=
  hk.cellN (fun ⟨e, he, ho⟩ => by
    have h1 := ((HS.has e (List.mem_append_left _ he)).2 _ ho).2
    have h2 := World.block_lt_of_cell? W0 p hc
    exact h1.elim (owns_nil _) (fun h3 => by omega)) (HS.old0 hc)
theorem St.oldKFN {W0 V W : World} {F L : List Ent} (HS : St W0 (owns []) V (F ++ L)) (hk : Kpt (owns F) V W) {p : Addr} {cs : List Value} (h : ∀ j v, cs[j]? = some v → W0.cell? (p.add j) = some v) : ∀ j v, cs[j]? = some v → W.cell? (p.add j) = some v := fun j v hv => HS.oldKF hk (h j v hv)
/-- Read from elsewhere: whatever is done within M. -/
def RdF (M : Nat → Prop) (W : World) (B : Option Addr) (cs : List Value) : Prop := ∀ W2 L2, St W M W2 L2 → Rd W2 B cs
theorem RdF.old0 {M : Nat → Prop} {W W2 : World} {L2 : List Ent} {B : Option Addr} {cs : List Value} (h : RdF M W B cs) (HS : St W M W2 L2) : Rd W2 B cs := h W2 L2 HS
theorem RdF.of_old {W0 W : World} {F L : List Ent} {B : Option Addr} {cs : List Value} (h : Rd W0 B cs) (HS : St W0 (owns []) W (F ++ L)) : RdF (owns F) W B cs := fun W2 L2 H2 j v hv => by
  obtain ⟨ad, e, hc⟩ := h j v hv
  exact ⟨ad, e, HS.oldKF H2.kept hc⟩
theorem RdF.of_row {W0 W : World} {M : Nat → Prop} {F L : List Ent} {i n c t z : Nat} {B : Option Addr} {cs : List Value} (HS : St W0 M W (F ++ L)) (hi : L[i]? = some (row B n c cs t z)) : RdF (owns F) W B cs := fun W2 L2 H2 j v hv => by
  have hm := List.mem_of_getElem? hi
  obtain ⟨ad, e, hc⟩ := Rd.row HS (i := F.length + i) (by rw [List.getElem?_append_right (by omega), Nat.add_sub_cancel_left]; exact hi) j v hv
  refine ⟨ad, e, H2.kept.cellN (fun ⟨f, hf, ho⟩ => ?_) hc⟩
  have hne := (List.pairwise_append.1 HS.ne).2.2 f hf _ hm _ ho
  apply hne
  have hb : (ad.add j).block = ad.block := by unfold Addr.add; split <;> rfl
  rw [hb]
  rcases (HS.has _ (List.mem_append_right _ hm)).1.2 with ⟨h9, _⟩ | ⟨g, cap, cur, h9, _⟩
  · cases h9; cases e
  · cases h9; cases e; rfl
theorem sne_f {x y : ByteArray} (h : x = y) : (!(x.toList == y.toList)) = false := by subst h; simp
theorem seq_t {x y : ByteArray} (h : x = y) : (x.toList == y.toList) = true := by subst h; simp
theorem cf_cz (xs : List ByteArray) : cf (fun s : ByteArray => [Value.string s]) xs = cz xs := by
  unfold cf cz
  induction xs with
  | nil => rfl
  | cons x xs ih => simp_all

end Go.Proofs.Ytnabbhcagonlkaa.GStackTurns
