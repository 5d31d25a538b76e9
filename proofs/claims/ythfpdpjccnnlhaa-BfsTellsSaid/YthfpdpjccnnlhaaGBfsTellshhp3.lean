/- Written for this claim by gp.py, a program of this session's, over the kit's print. Lean checks it. -/
import Derived.Test.YthfpdpjccnnlhaaGBfsTellsx0
import Derived.Test.YthfpdpjccnnlhaaGBfsTellshx
import Derived.Test.YthfpdpjccnnlhaaGBfsTellshhp1
import Derived.Test.YthfpdpjccnnlhaaGBfsTellshhp2
import Derived.Test.YthfpdpjccnnlhaaGBfsTellshgp
import Derived.WalkKit
import Derived.StillTailTactics
import Derived.Deep.LoopGhost
import Derived.KernelRfl
import Derived.Deep.OwnRows
import Derived.Laws.OwnMore
import Derived.Laws.MakeOwn
import Derived.Maps.AppendAt
import Derived.OrdersHeld
import Derived.Maps.OwnSet
import Derived.Maps.Keyed
import Derived.Maps.Views
import Derived.Laws.CopyRow
import Derived.Laws.IdiomCopy
import Derived.Laws.Entries
namespace Go.Proofs.Ythfpdpjccnnlhaa.GBfsTells
open Go.RowKit Go.Proofs.YthfpdpjccnnlhaaW.PrintWords Go.Proofs.YthfpdpjccnnlhaaW.PrintLast Go.Proofs.YthfpdpjccnnlhaaW.PrintMore
attribute [local go_sem] max2_int min2_int max_two min_two max_three min_three max_four min_four   -- for this text's walks alone
set_option linter.unusedVariables false
set_option linter.unusedSimpArgs false

--import Derived.WalkKit
--import Derived.StillTailTactics
--import Derived.Deep.LoopGhost
--import Derived.KernelRfl
--import Derived.Deep.OwnRows
--import Derived.Laws.OwnMore
--import Derived.Laws.MakeOwn
--import Derived.Maps.AppendAt
--import Derived.OrdersHeld
--import Derived.Maps.OwnSet
--import Derived.Maps.Keyed
--import Derived.Maps.Views
--import Derived.Laws.CopyRow
--import Derived.Laws.IdiomCopy
--import Derived.Laws.Entries
/-! ### pieces of rows, copies, remainders -/
theorem add_add_ (a : Addr) (m n : Nat) : (a.add m).add n = a.add (m + n) := by
  unfold Addr.add
  by_cases h : m = 0 <;> by_cases h2 : n = 0 <;> simp_all [Nat.add_assoc]
theorem cutA_blk {g N k : Nat} (h : k < N) : cutA (some ⟨g, 0, none⟩) N k 1 = some ⟨g, k, none⟩ := by
  unfold cutA
  rw [if_neg (by omega), Option.map_some, Nat.mul_one]
  unfold Addr.add
  split <;> simp_all
section
variable {P : Program} {ops : Array Oper} {Q : Exit → Act → World → Prop} {R : Act → Prop} {rest : List Oper} {a : Act} {l : List Value} {W W' W0 : World} {M : Nat → Prop} {L : List Ent} {v : Value} {op : Op} {d : Nat} {ty : TypeId} {ps : String} {af : Array Edge} {gd : Option (Nat × Bool)} {dst : Option Nat}
theorem Src.head {A : Option Addr} {n c m : Nat} {cs : List Value} (h : Src W (.slice A n c) n 1 cs) (hm : m ≤ n) : Src W (.slice A m c) m 1 (cs.take m) := by
  have hl := h.len
  refine ⟨?_, by rw [List.length_take]; omega, fun u hu => h.one u (List.mem_of_mem_take hu)⟩
  obtain ⟨B, c', e, hB⟩ := h.val
  cases e
  refine ⟨_, _, rfl, ?_⟩
  rcases hB with ⟨e, h0⟩ | ⟨ad, e, hc⟩
  · exact .inl ⟨e, by omega⟩
  · refine .inr ⟨ad, e, fun j u hu => hc j u ?_⟩
    by_cases hj : j < m
    · rwa [List.getElem?_take_of_lt hj] at hu
    · rw [List.getElem?_eq_none (by rw [List.length_take]; omega)] at hu; cases hu
theorem Src.tail {A : Option Addr} {n c m : Nat} {cs : List Value} (h : Src W (.slice A n c) n 1 cs) (hm : m ≤ n) (hc : n ≤ c) : Src W (.slice (cutA A c m 1) (n - m) (c - m)) (n - m) 1 (cs.drop m) := by
  have hl := h.len
  refine ⟨?_, by rw [List.length_drop]; omega, fun u hu => h.one u (List.mem_of_mem_drop hu)⟩
  obtain ⟨B, c', e, hB⟩ := h.val
  cases e
  refine ⟨_, _, rfl, ?_⟩
  rcases hB with ⟨e, h0⟩ | ⟨ad, e, hc2⟩
  · exact .inl ⟨by unfold cutA; rw [e]; split <;> rfl, by omega⟩
  · subst e
    unfold cutA
    by_cases hcm : c = m
    · rw [if_pos hcm]
      refine .inr ⟨ad, rfl, fun j u hu => ?_⟩
      rw [List.getElem?_eq_none (by rw [List.length_drop]; omega)] at hu; cases hu
    · rw [if_neg hcm]
      refine .inr ⟨_, rfl, fun j u hu => ?_⟩
      rw [List.getElem?_drop] at hu
      rw [Nat.mul_one, add_add_]
      exact hc2 _ u hu
/-- copy(x, y) into a row of one's own; all of y goes over. -/
theorem kcp {t e' : TypeId} {x y : Operand} (HS : St W0 M W L) (i : Nat) {g n c e : Nat} {cs news : List Value} (hi : L[i]? = some (row (some ⟨g, 0, none⟩) n c cs e 1)) (o dl dc : Nat) {sv : Value} {m : Nat} (hsrc : Src W sv m 1 news) (hm : m ≤ dl) (hfit : o + m ≤ cs.length)
    (hw : Region.wanted ⟨some d, .call { callee := .builtin .copy, args := #[x, y], argTypes := #[t, t] }, ty, ps, af, gd⟩ (yielded ops (Fr l).tmps) = true)
    (hx : (Fr l).eval x = .slice (some ⟨g, o, none⟩) dl dc) (hy : (Fr l).eval y = sv) (ht : P.underlying t = some (.slice e')) (hs : (P.info? e').map (·.size) = some 1)
    (h : ∀ W', St W0 M W' (L.set i (row (some ⟨g, 0, none⟩) n c (splice cs o news) e 1)) → wpList P ops Q rest (Fr (l.set d (.int .i64 m))) W') :
    wpList P ops Q (⟨some d, .call { callee := .builtin .copy, args := #[x, y], argTypes := #[t, t] }, ty, ps, af, gd⟩ :: rest) (Fr l) W := by
  obtain ⟨B, c2, rfl, hB⟩ := hsrc.val
  have hl : news.length = m := by have := hsrc.len; omega
  rcases hB with ⟨rfl, rfl⟩ | ⟨ad, rfl, hc⟩
  · have hn : news = [] := List.eq_nil_of_length_eq_zero hl
    subst hn
    refine qw (.int .i64 0) hw (by simp [execOp, resolve, invoke, builtin, hx, hy, run_copy_none W t t ty e' (some ⟨g, o, none⟩) none dl dc 0 c2 ht hs (by simp), goInt]) (h W ?_)
    rw [splice_eq _ _ _ (by simp; omega)]
    simp
    exact HS.turn hi id (fun _ h => h)
  · obtain ⟨cur, hg, hle, hst⟩ := HS.setRow_ hi o news (by omega)
    have hrun := run_copy_row P W t t ty e' g o dl dc ad m c2 cur.toArray e news ht hs hg (by rw [hl]; exact (Nat.min_eq_left hm).symm) hc (by simp; omega) hsrc.one
    rw [splice_eq _ _ _ (by omega), hl] at hst
    refine qw (.int .i64 m) hw ?_ (h _ hst)
    rw [hl] at hrun
    simp [execOp, resolve, invoke, builtin, hx, hy, hrun, goInt]
theorem R_rem {t t2 : TypeId} {x y : Operand} {i j : Nat} (hx : a.eval x = .int .i64 i) (hy : a.eval y = .int .i64 j) (h : 0 < j) (hi : i ≤ 9223372036854775807) : (execOp a.eval ⟨dst, .binOp .rem t x y t2, ty, ps, af, gd⟩).run P W = .ok (.value (.int .i64 ((i % j : Nat) : Int))) W := by
  have hj : ¬ ((j : Int) = 0) := by omega
  have e : ((i : Int).tmod (j : Int)) = ((i % j : Nat) : Int) := (Int.ofNat_tmod i j).symm
  have hd : (Op.intDiv .rem .i64 (i : Int) (j : Int)) = pure (.int .i64 ((i % j : Nat) : Int)) := by unfold Op.intDiv; rw [if_neg hj, e]
  simp [execOp, hx, hy, eqGuard_rem, binOp_rem, hd]
end
/-! ### a ring of whole numbers -/
def ring (bs : List Int) (f n : Nat) : List Int := (List.range n).map fun i => bs.getD ((f + i) % bs.length) 0
structure RQ (bs : List Int) (f n : Nat) (xs : List Int) : Prop where
  hn : n ≤ bs.length
  hf : 0 < bs.length → f < bs.length
  h0 : bs.length = 0 → f = 0
  hb : bs.length ≤ 4398046511104
  hx : xs = ring bs f n
theorem RQ.len {bs xs : List Int} {f n : Nat} (h : RQ bs f n xs) : xs.length = n := by rw [h.hx]; unfold ring; simp
theorem RQ.nil : RQ [] 0 0 [] := ⟨Nat.le_refl _, fun h => by simp at h, fun _ => rfl, by simp, rfl⟩
theorem RQ.grow {bs xs zs : List Int} {f n : Nat} (h : RQ bs f n xs) (hn : n = bs.length) {q : List Int} (hq : q = bs.drop f ++ bs.take f ++ zs) (hl : q.length ≤ 4398046511104) (h0 : 0 < q.length) : RQ q 0 n xs := by
  have hl2 : q.length = bs.length + zs.length := by
    rw [hq]; simp only [List.length_append, List.length_drop, List.length_take]
    have := h.hf; have := h.h0; omega
  refine ⟨by omega, fun _ => h0, fun _ => rfl, hl, ?_⟩
  rw [h.hx]
  unfold ring
  apply List.map_congr_left
  intro i hi
  have hi2 : i < n := by simpa using hi
  have hfb := h.hf (by omega)
  rw [Nat.zero_add, Nat.mod_eq_of_lt (a := i) (by omega), hq]
  simp only [List.getD_eq_getElem?_getD]
  congr 1
  by_cases hc : i < bs.length - f
  · rw [Nat.mod_eq_of_lt (by omega), List.append_assoc, List.getElem?_append_left (by rw [List.length_drop]; omega), List.getElem?_drop]
  · rw [Nat.mod_eq_sub_mod (by omega), Nat.mod_eq_of_lt (by omega), List.append_assoc, List.getElem?_append_right (by rw [List.length_drop]; omega), List.length_drop, List.getElem?_append_left (by rw [List.length_take]; omega), List.getElem?_take_of_lt (by omega)]
    congr 1
    omega
theorem RQ.push {bs xs : List Int} {f n : Nat} (h : RQ bs f n xs) (hn : n < bs.length) (v : Int) {q : List Int} (hq : q = bs.set ((f + n) % bs.length) v) : RQ q f (n + 1) (xs ++ [v]) := by
  have hl : q.length = bs.length := by rw [hq, List.length_set]
  have hfb := h.hf (by omega)
  have hm : (f + n) % bs.length < bs.length := Nat.mod_lt _ (by omega)
  refine ⟨by omega, fun _ => by omega, fun h2 => by omega, by have := h.hb; omega, ?_⟩
  rw [h.hx]
  unfold ring
  rw [List.range_succ, List.map_append, hl]
  congr 1
  · apply List.map_congr_left
    intro i hi
    have hi2 : i < n := by simpa using hi
    have hne : (f + n) % bs.length ≠ (f + i) % bs.length := by
      intro e
      by_cases h1 : f + n < bs.length
      · rw [Nat.mod_eq_of_lt h1, Nat.mod_eq_of_lt (by omega)] at e; omega
      · rw [Nat.mod_eq_sub_mod (by omega), Nat.mod_eq_of_lt (a := f + n - bs.length) (by omega)] at e
        by_cases h2 : f + i < bs.length
        · rw [Nat.mod_eq_of_lt h2] at e; omega
        · rw [Nat.mod_eq_sub_mod (by omega), Nat.mod_eq_of_lt (by omega)] at e; omega
    rw [hq]
    simp only [List.getD_eq_getElem?_getD]
    rw [List.getElem?_set_ne hne]
  · rw [hq]
    simp [hm]
theorem RQ.pop {bs xs : List Int} {f n : Nat} (h : RQ bs f n xs) (hn : 0 < n) {q : List Int} (hq : q = bs.set f 0) : xs = bs.getD f 0 :: xs.tail ∧ RQ q ((f + 1) % bs.length) (n - 1) xs.tail := by
  have hnb := h.hn
  have hfb := h.hf (by omega)
  have hl : q.length = bs.length := by rw [hq, List.length_set]
  obtain ⟨m, rfl⟩ : ∃ m, n = m + 1 := ⟨n - 1, by omega⟩
  have e1 : xs = bs.getD f 0 :: (List.range m).map (fun i => bs.getD ((f + (i + 1)) % bs.length) 0) := by
    rw [h.hx]
    unfold ring
    rw [List.range_succ_eq_map, List.map_cons, List.map_map, Nat.add_zero, Nat.mod_eq_of_lt hfb]
    rfl
  refine ⟨by rw [e1]; rfl, by omega, fun _ => by rw [hl]; exact Nat.mod_lt _ (by omega), fun h2 => by omega, by have := h.hb; omega, ?_⟩
  rw [e1, List.tail_cons]
  unfold ring
  rw [hl, Nat.add_sub_cancel]
  apply List.map_congr_left
  intro i hi
  have hi2 : i < m := by simpa using hi
  have e2 : ((f + 1) % bs.length + i) % bs.length = (f + (i + 1)) % bs.length := by rw [Nat.add_mod, Nat.mod_mod, ← Nat.add_mod]; congr 1; omega
  have hne : f ≠ (f + (i + 1)) % bs.length := by
    intro e
    by_cases h1 : f + (i + 1) < bs.length
    · rw [Nat.mod_eq_of_lt h1] at e; omega
    · rw [Nat.mod_eq_sub_mod (by omega), Nat.mod_eq_of_lt (by omega)] at e; omega
  rw [e2, hq]
  simp only [List.getD_eq_getElem?_getD]
  rw [List.getElem?_set_ne hne]
theorem ci_splice {k : IntKind} {xs ys : List Int} {o : Nat} (h : o + ys.length ≤ xs.length) : splice (ci k xs) o (ci k ys) = ci k (xs.take o ++ ys ++ xs.drop (o + ys.length)) := by
  rw [splice_eq _ _ _ (by rw [ci_len, ci_len]; exact h), ci_len]
  simp [ci, List.map_take, List.map_drop]
theorem ci_drop {k : IntKind} {xs : List Int} {m : Nat} : (ci k xs).drop m = ci k (xs.drop m) := by simp [ci, List.map_drop]
theorem ci_take' {k : IntKind} {xs : List Int} {m : Nat} : (ci k xs).take m = ci k (xs.take m) := by simp [ci, List.map_take]
theorem ring_copy {bs q1 q2 : List Int} {f m : Nat} (hf : f ≤ bs.length) (hm : bs.length ≤ m) (h1 : q1 = (List.replicate m (0 : Int)).take 0 ++ bs.drop f ++ (List.replicate m (0 : Int)).drop (0 + (bs.drop f).length)) (h2 : q2 = q1.take (bs.length - f) ++ bs.take f ++ q1.drop (bs.length - f + (bs.take f).length)) : q2 = bs.drop f ++ bs.take f ++ List.replicate (m - bs.length) 0 := by
  have e1 : q1 = bs.drop f ++ List.replicate (m - (bs.length - f)) 0 := by rw [h1]; simp
  have e2 : q1.take (bs.length - f) = bs.drop f := by rw [e1, List.take_append_of_le_length (by simp), List.take_of_length_le (by simp)]
  have e3 : q1.drop (bs.length - f + (bs.take f).length) = List.replicate (m - bs.length) 0 := by
    rw [e1, List.drop_append, List.drop_eq_nil_of_le (by simp), List.nil_append, List.drop_replicate]
    congr 1
    simp only [List.length_take, List.length_drop]
    omega
  rw [h2, e2, e3]
theorem take_rd {xs : List Int} {i : Int} (h0 : 0 ≤ i) (h1 : i < xs.length) : xs.take (i + 1).toNat = xs.take i.toNat ++ [rdI xs i] := by
  have h : i.toNat < xs.length := by omega
  rw [show (i + 1).toNat = i.toNat + 1 by omega, List.take_succ_eq_append_getElem h]
  unfold rdI
  rw [List.getD_eq_getElem?_getD, List.getElem?_eq_getElem h]
  rfl
section
variable {P : Program} {a : Act} {W : World} {dst : Option Nat} {ty : TypeId} {ps : String} {af : Array Edge} {gd : Option (Nat × Bool)}
theorem R_max {x y : Operand} {k : IntKind} {i j : Int} {ts : Array TypeId} (hx : a.eval x = .int k i) (hy : a.eval y = .int k j) :
    (execOp a.eval ⟨dst, .call { callee := .builtin .max, args := #[x, y], argTypes := ts }, ty, ps, af, gd⟩).run P W = .ok (.value (.int k (max i j))) W := by
  have e : (if i < j then j else i) = max i j := by split <;> omega
  simp [execOp, resolve, invoke, builtin, hx, hy, Builtin.max_, Builtin.max2, e]
end
/-! ### chapter 13: how far -/
def ng (ds : List Int) : Nat := ds.countP (fun b => decide (b < 0))
theorem ng_le (ds : List Int) : ng ds ≤ ds.length := List.countP_le_length
theorem ng_set {ds : List Int} {w x : Int} (h0 : 0 ≤ w) (h1 : w < ds.length) (h : rdI ds w < 0) (hx : 0 ≤ x) : ng (ds.set w.toNat x) + 1 = ng ds := by
  unfold ng
  have hw : w.toNat < ds.length := by omega
  have he : ds[w.toNat] = rdI ds w := by have := rdI_eq h0 h1; rw [List.getElem?_eq_getElem hw] at this; exact Option.some.inj this
  rw [List.countP_set hw, he]
  have : 0 < List.countP (fun b => decide (b < 0)) ds := List.countP_pos_iff.2 ⟨_, List.getElem_mem hw, by rw [he]; simpa using h⟩
  rw [if_pos (by simpa using h), if_neg (by simpa using hx)]
  omega
theorem ng_rep (n : Nat) : ng (List.replicate n (-1)) = n := by
  unfold ng; rw [List.countP_replicate]; simp
attribute [irreducible] ng
structure DS (N : Nat) (arcs : List (Int × Int)) (v : Int) (ds : List Int) : Prop where
  ld : ds.length = N
  lo : ∀ w : Int, 0 ≤ w → w < N → -1 ≤ rdI ds w
  ze : ∀ w : Int, 0 ≤ w → w < N → (rdI ds w = 0 ↔ w = v)
  pr : ∀ w : Int, 0 ≤ w → w < N → 0 < rdI ds w → ∃ i : Int, 0 ≤ i ∧ i < arcs.length ∧ (gx arcs i).2 = w ∧ rdI ds (gx arcs i).1 = rdI ds w - 1
  ar : ∀ i : Int, 0 ≤ i → i < arcs.length → 0 ≤ rdI ds (gx arcs i).1 → 0 ≤ rdI ds (gx arcs i).2 ∧ rdI ds (gx arcs i).2 ≤ rdI ds (gx arcs i).1 + 1
structure BK (N : Nat) (arcs : List (Int × Int)) (ds bs : List Int) : Prop where
  lb : bs.length = N
  no : ∀ w : Int, 0 ≤ w → w < N → rdI ds w ≤ 0 → rdI bs w = -1
  bk : ∀ w : Int, 0 ≤ w → w < N → 0 < rdI ds w → 0 ≤ rdI bs w ∧ rdI bs w < arcs.length ∧ (gx arcs (rdI bs w)).2 = w ∧ rdI ds (gx arcs (rdI bs w)).1 = rdI ds w - 1
  le : ∀ i : Int, 0 ≤ i → i < arcs.length → 0 ≤ rdI ds (gx arcs i).1 → rdI ds (gx arcs i).2 = rdI ds (gx arcs i).1 + 1 → rdI bs (gx arcs i).2 ≤ i
theorem gx_fine {N : Nat} {arcs : List (Int × Int)} (hF : Fine N arcs) {i : Int} (h0 : 0 ≤ i) (h1 : i < arcs.length) : 0 ≤ (gx arcs i).1 ∧ (gx arcs i).1 < N ∧ 0 ≤ (gx arcs i).2 ∧ (gx arcs i).2 < N := hF _ (List.mem_of_getElem? (gx_eq h0 h1))
theorem rdI_in {xs : List Int} {i : Int} (h0 : 0 ≤ i) (h1 : i < xs.length) : rdI xs i ∈ xs := List.mem_of_getElem? (rdI_eq h0 h1)
theorem ds_le {N : Nat} {arcs : List (Int × Int)} {v : Int} {ds es : List Int} (hF : Fine N arcs) (h : DS N arcs v ds) (k : DS N arcs v es) : ∀ (d : Nat) (w : Int), 0 ≤ w → w < N → rdI ds w = d → 0 ≤ rdI es w ∧ rdI es w ≤ d
  | 0, w, h0, h1, e => by
    have h2 := (h.ze w h0 h1).1 (by omega)
    have h3 := (k.ze w h0 h1).2 h2
    omega
  | d + 1, w, h0, h1, e => by
    obtain ⟨i, i0, i1, it, ifr⟩ := h.pr w h0 h1 (by omega)
    have hf := gx_fine hF i0 i1
    have h2 := ds_le hF h k d _ hf.1 hf.2.1 (by omega)
    have h3 := k.ar i i0 i1 h2.1
    rw [it] at h3
    omega
theorem ds_rd {N : Nat} {arcs : List (Int × Int)} {v : Int} {ds es : List Int} (hF : Fine N arcs) (h : DS N arcs v ds) (k : DS N arcs v es) {w : Int} (h0 : 0 ≤ w) (h1 : w < N) : rdI ds w = rdI es w := by
  have a1 := h.lo w h0 h1
  have a2 := k.lo w h0 h1
  by_cases hd : 0 ≤ rdI ds w
  · have b1 := ds_le hF h k (rdI ds w).toNat w h0 h1 (by omega)
    have b2 := ds_le hF k h (rdI es w).toNat w h0 h1 (by omega)
    omega
  · by_cases he : 0 ≤ rdI es w
    · have b2 := ds_le hF k h (rdI es w).toNat w h0 h1 (by omega)
      omega
    · omega
theorem rd_ext {xs ys : List Int} (hl : xs.length = ys.length) (h : ∀ w : Int, 0 ≤ w → w < xs.length → rdI xs w = rdI ys w) : xs = ys := by
  apply List.ext_getElem?
  intro j
  rcases Nat.lt_or_ge j xs.length with hj | hj
  · have h1 := rdI_eq (xs := xs) (i := (j : Int)) (by omega) (by omega)
    have h2 := rdI_eq (xs := ys) (i := (j : Int)) (by omega) (by omega)
    rw [Int.toNat_natCast] at h1 h2
    rw [h1, h2, h _ (by omega) (by omega)]
  · rw [List.getElem?_eq_none hj, List.getElem?_eq_none (by omega)]
theorem ds_eq {N : Nat} {arcs : List (Int × Int)} {v : Int} {ds es : List Int} (hF : Fine N arcs) (h : DS N arcs v ds) (k : DS N arcs v es) : ds = es :=
  rd_ext (h.ld.trans k.ld.symm) (fun w h0 h1 => ds_rd hF h k h0 (by have := h.ld; omega))
theorem cnt_pos {ks : List Int} {v : Int} (h : v ∈ ks) : 0 < cnt ks v := by
  unfold cnt; exact List.countP_pos_iff.2 ⟨v, h, by simp⟩
theorem lvl_low {N : Nat} {arcs : List (Int × Int)} {v : Int} {ds : List Int} (hl : ds.length = N)
    (pr : ∀ w : Int, 0 ≤ w → w < N → 0 < rdI ds w → ∃ i : Int, 0 ≤ i ∧ i < arcs.length ∧ (gx arcs i).2 = w ∧ rdI ds (gx arcs i).1 = rdI ds w - 1) (hF : Fine N arcs) : ∀ (d : Nat) (w : Int), 0 ≤ w → w < N → rdI ds w = d → d + 1 ≤ low ds ((d : Int) + 1)
  | 0, w, h0, h1, e => by
    have hm : rdI ds w ∈ ds := rdI_in h0 (by omega)
    have := cnt_pos hm
    have h2 := low_succ ds ((0 : Nat) : Int)
    rw [e] at this
    omega
  | d + 1, w, h0, h1, e => by
    obtain ⟨i, i0, i1, it, ifr⟩ := pr w h0 h1 (by omega)
    have hf := gx_fine hF i0 i1
    have h2 := lvl_low (v := v) hl pr hF d _ hf.1 hf.2.1 (by omega)
    have hm : rdI ds w ∈ ds := rdI_in h0 (by omega)
    have := cnt_pos hm
    have h3 := low_succ ds (((d + 1 : Nat) : Int))
    rw [e] at this
    rw [show ((d + 1 : Nat) : Int) = (d : Int) + 1 by omega] at *
    omega
theorem lvl {N : Nat} {arcs : List (Int × Int)} {v : Int} {ds : List Int} (hl : ds.length = N) (ze : ∀ w : Int, 0 ≤ w → w < N → (rdI ds w = 0 ↔ w = v))
    (pr : ∀ w : Int, 0 ≤ w → w < N → 0 < rdI ds w → ∃ i : Int, 0 ≤ i ∧ i < arcs.length ∧ (gx arcs i).2 = w ∧ rdI ds (gx arcs i).1 = rdI ds w - 1) (hF : Fine N arcs) {w : Int} (h0 : 0 ≤ w) (h1 : w < N) : rdI ds w < N := by
  by_cases h : rdI ds w < 0
  · omega
  · have h2 := lvl_low (v := v) hl pr hF (rdI ds w).toNat w h0 h1 (by omega)
    have h3 := low_le ds (((rdI ds w).toNat : Int) + 1)
    omega
theorem ds_none {N : Nat} {arcs : List (Int × Int)} {v : Int} (hF : Fine N arcs) (hv : ¬ (0 ≤ v ∧ v < N)) : DS N arcs v (List.replicate N (-1)) := by
  refine ⟨List.length_replicate, fun w a b => ?_, fun w a b => ?_, fun w a b hp => ?_, fun i a b hp => ?_⟩
  · rw [rdI_rep a b]; omega
  · rw [rdI_rep a b]; constructor
    · intro h; omega
    · intro h; subst h; exact absurd ⟨a, b⟩ hv
  · rw [rdI_rep a b] at hp; omega
  · have hf := gx_fine hF a b; rw [rdI_rep hf.1 hf.2.1] at hp; omega
theorem bk_none {N : Nat} {arcs : List (Int × Int)} (hF : Fine N arcs) : BK N arcs (List.replicate N (-1)) (List.replicate N (-1)) := by
  refine ⟨List.length_replicate, fun w a b _ => rdI_rep a b, fun w a b hp => ?_, fun i a b hp => ?_⟩
  · rw [rdI_rep a b] at hp; omega
  · have hf := gx_fine hF a b; rw [rdI_rep hf.1 hf.2.1] at hp; omega
/-! the rounds -/
structure BI (N : Nat) (arcs : List (Int × Int)) (v : Int) (G ds bs : List Int) : Prop where
  ld : ds.length = N
  lb : bs.length = N
  lo : ∀ w : Int, 0 ≤ w → w < N → -1 ≤ rdI ds w
  ze : ∀ w : Int, 0 ≤ w → w < N → (rdI ds w = 0 ↔ w = v)
  no : ∀ w : Int, 0 ≤ w → w < N → rdI ds w ≤ 0 → rdI bs w = -1
  bk : ∀ w : Int, 0 ≤ w → w < N → 0 < rdI ds w → 0 ≤ rdI bs w ∧ rdI bs w < arcs.length ∧ (gx arcs (rdI bs w)).2 = w ∧ rdI ds (gx arcs (rdI bs w)).1 = rdI ds w - 1
  gone : ∀ i ∈ G, 0 ≤ i ∧ i < arcs.length ∧ 0 ≤ rdI ds (gx arcs i).1 ∧ 0 ≤ rdI ds (gx arcs i).2 ∧ rdI ds (gx arcs i).2 ≤ rdI ds (gx arcs i).1 + 1 ∧ (rdI ds (gx arcs i).2 = rdI ds (gx arcs i).1 + 1 → rdI bs (gx arcs i).2 ≤ i)
theorem bi_new {N : Nat} {arcs : List (Int × Int)} {v i : Int} {G ds bs ds' bs' : List Int} (hF : Fine N arcs) (h : BI N arcs v G ds bs) (h0 : 0 ≤ i) (h1 : i < arcs.length) (hu : 0 ≤ rdI ds (gx arcs i).1) (hn : rdI ds (gx arcs i).2 < 0)
    (hd : ds' = ds.set (gx arcs i).2.toNat (rdI ds (gx arcs i).1 + 1)) (hb : bs' = bs.set (gx arcs i).2.toNat i) : BI N arcs v (i :: G) ds' bs' := by
  have hf := gx_fine hF h0 h1
  have hl := h.ld
  have hl2 := h.lb
  have rd : ∀ x : Int, 0 ≤ x → rdI ds' x = if x = (gx arcs i).2 then rdI ds (gx arcs i).1 + 1 else rdI ds x := fun x hx => by rw [hd, rdI_set hf.2.2.1 (by omega) hx]
  have rb : ∀ x : Int, 0 ≤ x → rdI bs' x = if x = (gx arcs i).2 then i else rdI bs x := fun x hx => by rw [hb, rdI_set hf.2.2.1 (by omega) hx]
  have hm : ∀ x : Int, 0 ≤ x → 0 ≤ rdI ds x → rdI ds' x = rdI ds x := fun x hx hp => by rw [rd x hx, if_neg]; intro e; subst e; omega
  have hmb : ∀ x : Int, 0 ≤ x → 0 ≤ rdI ds x → rdI bs' x = rdI bs x := fun x hx hp => by rw [rb x hx, if_neg]; intro e; subst e; omega
  have hfr := hm _ hf.1 hu
  refine ⟨by rw [hd, List.length_set]; exact hl, by rw [hb, List.length_set]; exact hl2, fun w a b => ?_, fun w a b => ?_, fun w a b => ?_, fun w a b => ?_, fun j hj => ?_⟩
  · rw [rd w a]; split
    · omega
    · exact h.lo w a b
  · rw [rd w a]; split
    · rename_i e; subst e
      have := h.ze _ a b
      constructor
      · intro h9; omega
      · intro h9; have := this.2 h9; omega
    · exact h.ze w a b
  · rw [rd w a, rb w a]; split
    · intro h9; omega
    · exact h.no w a b
  · by_cases e : w = (gx arcs i).2
    · intro _
      rw [rb w a, if_pos e, rd w a, if_pos e, hfr]
      exact ⟨h0, h1, e.symm, by omega⟩
    · rw [rd w a, if_neg e, rb w a, if_neg e]
      intro hp
      obtain ⟨p1, p2, p3, p4⟩ := h.bk w a b hp
      exact ⟨p1, p2, p3, by rw [hm _ (gx_fine hF p1 p2).1 (by omega), p4]⟩
  · rcases List.mem_cons.1 hj with rfl | hj
    · refine ⟨h0, h1, by omega, ?_, ?_, ?_⟩
      · rw [rd _ hf.2.2.1, if_pos rfl]; omega
      · rw [rd _ hf.2.2.1, if_pos rfl, hfr]; omega
      · intro _; rw [rb _ hf.2.2.1, if_pos rfl]; omega
    · obtain ⟨p1, p2, p3, p4, p5, p6⟩ := h.gone j hj
      have hfj := gx_fine hF p1 p2
      rw [hm _ hfj.1 p3, hm _ hfj.2.2.1 p4, hmb _ hfj.2.2.1 p4]
      exact ⟨p1, p2, p3, p4, p5, p6⟩
theorem bi_min {N : Nat} {arcs : List (Int × Int)} {v i : Int} {G ds bs bs' : List Int} (hF : Fine N arcs) (h : BI N arcs v G ds bs) (h0 : 0 ≤ i) (h1 : i < arcs.length) (hu : 0 ≤ rdI ds (gx arcs i).1) (he : rdI ds (gx arcs i).2 = rdI ds (gx arcs i).1 + 1)
    (hb : bs' = bs.set (gx arcs i).2.toNat (min (rdI bs (gx arcs i).2) i)) : BI N arcs v (i :: G) ds bs' := by
  have hf := gx_fine hF h0 h1
  have hl2 := h.lb
  have rb : ∀ x : Int, 0 ≤ x → rdI bs' x = if x = (gx arcs i).2 then min (rdI bs (gx arcs i).2) i else rdI bs x := fun x hx => by rw [hb, rdI_set hf.2.2.1 (by omega) hx]
  refine ⟨h.ld, by rw [hb, List.length_set]; exact hl2, h.lo, h.ze, fun w a b => ?_, fun w a b => ?_, fun j hj => ?_⟩
  · rw [rb w a]; split
    · rename_i e; subst e; intro h9; omega
    · exact h.no w a b
  · intro hp
    have hk := h.bk w a b hp
    rw [rb w a]; split
    · rename_i e; subst e
      rcases Int.le_total (rdI bs (gx arcs i).2) i with hle | hle
      · rw [Int.min_eq_left hle]; exact hk
      · rw [Int.min_eq_right hle]; exact ⟨h0, h1, rfl, by omega⟩
    · exact hk
  · rcases List.mem_cons.1 hj with rfl | hj
    · refine ⟨h0, h1, hu, by omega, by omega, fun _ => ?_⟩
      rw [rb _ hf.2.2.1, if_pos rfl]; omega
    · obtain ⟨p1, p2, p3, p4, p5, p6⟩ := h.gone j hj
      refine ⟨p1, p2, p3, p4, p5, fun h9 => ?_⟩
      have := p6 h9
      rw [rb _ (gx_fine hF p1 p2).2.2.1]; split
      · rename_i e; rw [e] at this; omega
      · exact this
theorem bi_old {N : Nat} {arcs : List (Int × Int)} {v i : Int} {G ds bs : List Int} (h : BI N arcs v G ds bs) (h0 : 0 ≤ i) (h1 : i < arcs.length) (hu : 0 ≤ rdI ds (gx arcs i).1) (hn : 0 ≤ rdI ds (gx arcs i).2) (he : rdI ds (gx arcs i).2 ≤ rdI ds (gx arcs i).1) : BI N arcs v (i :: G) ds bs := by
  refine ⟨h.ld, h.lb, h.lo, h.ze, h.no, h.bk, fun j hj => ?_⟩
  rcases List.mem_cons.1 hj with rfl | hj
  · exact ⟨h0, h1, hu, hn, by omega, fun h9 => by omega⟩
  · exact h.gone j hj
/-- Behind a round: what waits (xs), which arcs were gone over (G), how many steps there were (c). -/
structure QI (N : Nat) (arcs : List (Int × Int)) (G ds xs : List Int) (c : Nat) : Prop where
  inr : ∀ x ∈ xs, 0 ≤ x ∧ x < N ∧ 0 ≤ rdI ds x
  mono : xs.Pairwise (fun x y => rdI ds x ≤ rdI ds y)
  near : ∀ x ∈ xs, ∀ w : Int, 0 ≤ w → w < N → rdI ds w ≤ rdI ds x + 1
  all : ∀ i : Int, 0 ≤ i → i < arcs.length → 0 ≤ rdI ds (gx arcs i).1 → (gx arcs i).1 ∈ xs ∨ i ∈ G
  nd : xs.Nodup
  apart : ∀ i ∈ G, (gx arcs i).1 ∉ xs
  gnd : G.Nodup
  acc : c + xs.length + ng ds = N + G.length
structure QJ (N : Nat) (arcs : List (Int × Int)) (u : Int) (k : Nat) (G ds xs : List Int) (c : Nat) : Prop where
  ur : 0 ≤ u ∧ u < N ∧ 0 ≤ rdI ds u
  inr : ∀ x ∈ xs, 0 ≤ x ∧ x < N ∧ 0 ≤ rdI ds x
  mono : xs.Pairwise (fun x y => rdI ds x ≤ rdI ds y)
  near : ∀ w : Int, 0 ≤ w → w < N → rdI ds w ≤ rdI ds u + 1
  up : ∀ x ∈ xs, rdI ds u ≤ rdI ds x
  all : ∀ i : Int, 0 ≤ i → i < arcs.length → 0 ≤ rdI ds (gx arcs i).1 → (gx arcs i).1 ∈ xs ∨ i ∈ G ∨ (gx arcs i).1 = u
  part : ∀ i ∈ (idxs (keys false arcs) u).take k, i ∈ G
  nd : xs.Nodup
  nu : u ∉ xs
  apart : ∀ i ∈ G, (gx arcs i).1 ∉ xs ∧ ((gx arcs i).1 = u → i ∈ (idxs (keys false arcs) u).take k)
  gnd : G.Nodup
  acc : c + xs.length + ng ds = N + G.length
theorem mem_idxs {arcs : List (Int × Int)} {u i : Int} : i ∈ idxs (keys false arcs) u ↔ 0 ≤ i ∧ i < arcs.length ∧ (gx arcs i).1 = u := by
  constructor
  · intro h
    obtain ⟨h0, h1, h2⟩ := idxs_mem h
    rw [keys_len] at h1
    rw [keys_get h0 h1] at h2
    refine ⟨h0, h1, ?_⟩
    have := Option.some.inj h2; unfold key at this; simpa using this
  · rintro ⟨h0, h1, h2⟩
    have hk := keys_get (b := false) (arcs := arcs) h0 h1
    unfold idxs
    simp only [List.mem_map, List.mem_filter, List.mem_range]
    refine ⟨i.toNat, ⟨by rw [keys_len]; omega, ?_⟩, by omega⟩
    rw [List.getD_eq_getElem?_getD, hk]
    unfold key; simpa using h2
theorem idxs_nodup (ks : List Int) (v : Int) : (idxs ks v).Nodup := by
  unfold idxs
  refine List.Pairwise.map _ (fun a b h => ?_) ((List.nodup_range).filter _)
  intro e; exact h (by omega)
theorem qj_start {N : Nat} {arcs : List (Int × Int)} {G ds xs : List Int} {c : Nat} (h : QI N arcs G ds xs c) (h0 : 0 < xs.length) : QJ N arcs (rdI xs 0) 0 G ds xs.tail (c + 1) := by
  obtain ⟨u, ys, rfl⟩ : ∃ u ys, xs = u :: ys := by cases xs with | nil => simp at h0 | cons u ys => exact ⟨u, ys, rfl⟩
  have e : rdI (u :: ys) 0 = u := by unfold rdI; rfl
  rw [e, List.tail_cons]
  have hm := List.pairwise_cons.1 h.mono
  have hn := List.nodup_cons.1 h.nd
  refine ⟨h.inr u (List.mem_cons_self ..), fun x hx => h.inr x (List.mem_cons_of_mem _ hx), hm.2, h.near u (List.mem_cons_self ..), hm.1, fun i a b hp => ?_, fun i hi => by simp at hi, hn.2, hn.1, fun i hi => ⟨fun h9 => h.apart i hi (List.mem_cons_of_mem _ h9), fun h9 => absurd (h9 ▸ List.mem_cons_self ..) (h.apart i hi)⟩, h.gnd, by have := h.acc; rw [List.length_cons] at this; omega⟩
  rcases h.all i a b hp with h1 | h1
  · rcases List.mem_cons.1 h1 with h2 | h2
    · exact .inr (.inr h2)
    · exact .inl h2
  · exact .inr (.inl h1)
theorem qj_end {N : Nat} {arcs : List (Int × Int)} {u : Int} {k : Nat} {G ds xs : List Int} {c : Nat} (h : QJ N arcs u k G ds xs c) (hk : (idxs (keys false arcs) u).length ≤ k) : QI N arcs G ds xs c := by
  refine ⟨h.inr, h.mono, fun x hx w a b => ?_, fun i a b hp => ?_, h.nd, fun i hi => (h.apart i hi).1, h.gnd, h.acc⟩
  · have := h.near w a b; have := h.up x hx; omega
  · rcases h.all i a b hp with h1 | h1 | h1
    · exact .inl h1
    · exact .inr h1
    · exact .inr (h.part i (by rw [List.take_of_length_le hk]; exact mem_idxs.2 ⟨a, b, h1⟩))
theorem qj_at {arcs : List (Int × Int)} {u q : Int} (q0 : 0 ≤ q) (q1 : q < (idxs (keys false arcs) u).length) : 0 ≤ rdI (idxs (keys false arcs) u) q ∧ rdI (idxs (keys false arcs) u) q < arcs.length ∧ (gx arcs (rdI (idxs (keys false arcs) u) q)).1 = u :=
  mem_idxs.1 (List.mem_of_getElem? (rdI_eq q0 q1))
theorem nd_take {L : List Int} (h : L.Nodup) {q : Int} (q0 : 0 ≤ q) (q1 : q < L.length) : rdI L q ∉ L.take q.toNat := by
  intro hm
  have h2 := (List.take_append_drop q.toNat L) ▸ h
  have h3 := (List.nodup_append.1 h2).2.2 _ hm (rdI L q) ?_
  · exact h3 rfl
  · rw [List.drop_eq_getElem_cons (by omega : q.toNat < L.length)]
    have := rdI_eq q0 q1; rw [List.getElem?_eq_getElem (by omega)] at this
    rw [Option.some.inj this]; exact List.mem_cons_self ..
theorem qj_gone {N : Nat} {arcs : List (Int × Int)} {u q i : Int} {G ds xs : List Int} {c : Nat} (h : QJ N arcs u q.toNat G ds xs c) (q0 : 0 ≤ q) (q1 : q < (idxs (keys false arcs) u).length) (hi : i = rdI (idxs (keys false arcs) u) q) : QJ N arcs u (q + 1).toNat (i :: G) ds xs (c + 1) := by
  subst hi
  have ha := qj_at q0 q1
  have htk := take_rd (xs := idxs (keys false arcs) u) q0 q1
  refine ⟨h.ur, h.inr, h.mono, h.near, h.up, fun j a b hp => ?_, fun j hj => ?_, h.nd, h.nu, fun j hj => ?_, ?_, by have := h.acc; rw [List.length_cons]; omega⟩
  · rcases h.all j a b hp with h1 | h1 | h1
    · exact .inl h1
    · exact .inr (.inl (List.mem_cons_of_mem _ h1))
    · exact .inr (.inr h1)
  · rw [htk] at hj
    rcases List.mem_append.1 hj with h1 | h1
    · exact List.mem_cons_of_mem _ (h.part j h1)
    · rw [List.mem_singleton] at h1; rw [h1]; exact List.mem_cons_self ..
  · rw [htk]
    rcases List.mem_cons.1 hj with rfl | hj
    · refine ⟨by rw [ha.2.2]; exact h.nu, fun _ => List.mem_append_right _ (List.mem_singleton_self _)⟩
    · exact ⟨(h.apart j hj).1, fun e => List.mem_append_left _ ((h.apart j hj).2 e)⟩
  · refine List.nodup_cons.2 ⟨fun hg => ?_, h.gnd⟩
    exact nd_take (idxs_nodup _ _) q0 q1 ((h.apart _ hg).2 ha.2.2)
theorem qj_push {N : Nat} {arcs : List (Int × Int)} {u t : Int} {k : Nat} {G ds xs ds' : List Int} {c : Nat} (hl : ds.length = N) (h : QJ N arcs u k G ds xs c) (hg : ∀ j ∈ G, 0 ≤ rdI ds (gx arcs j).1) (hF : Fine N arcs) (t0 : 0 ≤ t) (t1 : t < N) (hn : rdI ds t < 0) (hd : ds' = ds.set t.toNat (rdI ds u + 1)) : QJ N arcs u k G ds' (xs ++ [t]) c := by
  have rd : ∀ x : Int, 0 ≤ x → rdI ds' x = if x = t then rdI ds u + 1 else rdI ds x := fun x hx => by rw [hd, rdI_set t0 (by omega) hx]
  have hm : ∀ x : Int, 0 ≤ x → 0 ≤ rdI ds x → rdI ds' x = rdI ds x := fun x hx hp => by rw [rd x hx, if_neg]; intro e; subst e; omega
  have hu := hm u h.ur.1 h.ur.2.2
  have hx9 : ∀ x ∈ xs, rdI ds' x = rdI ds x := fun x hx => hm x (h.inr x hx).1 (h.inr x hx).2.2
  have htx : t ∉ xs := fun h9 => by have := (h.inr t h9).2.2; omega
  have htu : t ≠ u := fun e => by subst e; have := h.ur.2.2; omega
  have hself : rdI ds' t = rdI ds u + 1 := by rw [rd t t0, if_pos rfl]
  refine ⟨by rw [hu]; exact h.ur, fun x hx => ?_, ?_, fun w a b => ?_, fun x hx => ?_, fun j a b hp => ?_, h.part, ?_, ?_, fun j hj => ?_, h.gnd, ?_⟩
  · rcases List.mem_append.1 hx with h9 | h9
    · rw [hx9 x h9]; exact h.inr x h9
    · rw [List.mem_singleton] at h9; subst h9; rw [hself]; have := h.ur; exact ⟨t0, t1, by omega⟩
  · refine List.pairwise_append.2 ⟨h.mono.imp_of_mem (fun {x y} hx hy hxy => by rw [hx9 x hx, hx9 y hy]; exact hxy), List.pairwise_singleton _ _, fun x hx y hy => ?_⟩
    rw [List.mem_singleton] at hy; subst hy
    rw [hx9 x hx, hself]
    have := h.up x hx
    have := h.near x (h.inr x hx).1 (h.inr x hx).2.1
    omega
  · rw [hu, rd w a]; split
    · omega
    · exact h.near w a b
  · rw [hu]
    rcases List.mem_append.1 hx with h9 | h9
    · rw [hx9 x h9]; exact h.up x h9
    · rw [List.mem_singleton] at h9; subst h9; rw [hself]; omega
  · have hfj := gx_fine hF a b
    by_cases e : (gx arcs j).1 = t
    · exact .inl (List.mem_append_right _ (by rw [e]; exact List.mem_singleton_self _))
    · rw [rd _ hfj.1, if_neg e] at hp
      rcases h.all j a b hp with h1 | h1 | h1
      · exact .inl (List.mem_append_left _ h1)
      · exact .inr (.inl h1)
      · exact .inr (.inr h1)
  · refine List.nodup_append.2 ⟨h.nd, List.nodup_cons.2 ⟨by simp, List.nodup_nil⟩, fun x hx y hy => ?_⟩
    rw [List.mem_singleton] at hy; subst hy
    intro e; subst e; exact htx hx
  · intro h9
    rcases List.mem_append.1 h9 with h1 | h1
    · exact h.nu h1
    · rw [List.mem_singleton] at h1; exact htu h1.symm
  · refine ⟨fun h9 => ?_, (h.apart j hj).2⟩
    rcases List.mem_append.1 h9 with h1 | h1
    · exact (h.apart j hj).1 h1
    · rw [List.mem_singleton] at h1
      have := hg j hj
      rw [h1] at this; omega
  · have h3 := h.acc
    have h4 := ng_set (x := rdI ds u + 1) t0 (by omega) hn (by have := h.ur.2.2; omega)
    rw [← hd] at h4
    rw [List.length_append, List.length_singleton]
    omega
theorem nodup_le : ∀ (M : Nat) (G : List Int), G.Nodup → (∀ x ∈ G, 0 ≤ x ∧ x < M) → G.length ≤ M
  | 0, G, _, h => by
    cases G with
    | nil => exact Nat.le_refl _
    | cons x G => have := h x (List.mem_cons_self ..); omega
  | M + 1, G, hn, h => by
    have h2 := nodup_le M (G.erase (M : Int)) (hn.erase _) (fun x hx => by
      have h3 := (hn.mem_erase_iff).1 hx
      have := h x h3.2
      have := h3.1
      omega)
    have h4 := List.length_erase (a := (M : Int)) (l := G)
    split at h4 <;> omega
theorem bq_bound {N : Nat} {arcs : List (Int × Int)} {v : Int} {G ds bs xs : List Int} {c : Nat} (hB : BI N arcs v G ds bs) (h : QI N arcs G ds xs c) : c ≤ N + arcs.length ∧ xs.length ≤ N ∧ G.length ≤ arcs.length := by
  have h1 := nodup_le arcs.length G h.gnd (fun x hx => ⟨(hB.gone x hx).1, (hB.gone x hx).2.1⟩)
  have h2 := h.acc
  have h3 := nodup_le N xs h.nd (fun x hx => ⟨(h.inr x hx).1, (h.inr x hx).2.1⟩)
  omega
theorem bj_bound {N : Nat} {arcs : List (Int × Int)} {v u : Int} {k : Nat} {G ds bs xs : List Int} {c : Nat} (hB : BI N arcs v G ds bs) (h : QJ N arcs u k G ds xs c) : c ≤ N + arcs.length ∧ xs.length ≤ N ∧ G.length ≤ arcs.length := by
  have h1 := nodup_le arcs.length G h.gnd (fun x hx => ⟨(hB.gone x hx).1, (hB.gone x hx).2.1⟩)
  have h2 := h.acc
  have h3 := nodup_le N xs h.nd (fun x hx => ⟨(h.inr x hx).1, (h.inr x hx).2.1⟩)
  omega
theorem bq_start {N : Nat} {arcs : List (Int × Int)} {v : Int} {ds : List Int} (hF : Fine N arcs) (h0 : 0 ≤ v) (h1 : v < N) (hd : ds = (List.replicate N (-1)).set v.toNat 0) : BI N arcs v [] ds (List.replicate N (-1)) ∧ QI N arcs [] ds [v] 0 := by
  have hl : (List.replicate N (-1 : Int)).length = N := List.length_replicate
  have rd : ∀ x : Int, 0 ≤ x → x < N → rdI ds x = if x = v then 0 else -1 := fun x hx hy => by rw [hd, rdI_set h0 (by omega) hx]; split; rfl; exact rdI_rep hx hy
  have hng : ng ds + 1 = N := by
    have := ng_set (ds := List.replicate N (-1)) (w := v) (x := 0) h0 (by omega) (by rw [rdI_rep h0 h1]; omega) (by omega)
    rw [← hd, ng_rep] at this; exact this
  refine ⟨⟨by rw [hd, List.length_set]; exact hl, hl, fun w a b => ?_, fun w a b => ?_, fun w a b _ => rdI_rep a b, fun w a b => ?_, fun i hi => by simp at hi⟩, ⟨fun x hx => ?_, List.pairwise_singleton _ _, fun x hx w a b => ?_, fun i a b hp => ?_, List.nodup_cons.2 ⟨by simp, List.nodup_nil⟩, fun i hi => by simp at hi, List.nodup_nil, ?_⟩⟩
  · rw [rd w a b]; split <;> omega
  · rw [rd w a b]; split
    · rename_i e; exact ⟨fun _ => e, fun _ => rfl⟩
    · rename_i e; exact ⟨fun h => by omega, fun h => absurd h e⟩
  · rw [rd w a b]; split <;> (intro h; omega)
  · rw [List.mem_singleton] at hx; subst hx; rw [rd x h0 h1, if_pos rfl]; exact ⟨h0, h1, Int.le_refl _⟩
  · rw [List.mem_singleton] at hx; subst hx; rw [rd x h0 h1, if_pos rfl, rd w a b]; split <;> omega
  · have hf := gx_fine hF a b
    rw [rd _ hf.1 hf.2.1] at hp
    by_cases e : (gx arcs i).1 = v
    · exact .inl (by rw [e]; exact List.mem_singleton_self _)
    · rw [if_neg e] at hp; omega
  · rw [List.length_singleton, List.length_nil]; omega
theorem bq_done {N : Nat} {arcs : List (Int × Int)} {v : Int} {G ds bs xs : List Int} {c : Nat} (hB : BI N arcs v G ds bs) (h : QI N arcs G ds xs c) (hx : xs.length = 0) : DS N arcs v ds ∧ BK N arcs ds bs := by
  have hx : xs = [] := List.eq_nil_of_length_eq_zero hx
  subst hx
  have hall : ∀ i : Int, 0 ≤ i → i < arcs.length → 0 ≤ rdI ds (gx arcs i).1 → i ∈ G := fun i a b hp => (h.all i a b hp).elim (fun h => by simp at h) id
  refine ⟨⟨hB.ld, hB.lo, hB.ze, fun w a b hp => ?_, fun i a b hp => ?_⟩, ⟨hB.lb, hB.no, hB.bk, fun i a b hp he => ?_⟩⟩
  · obtain ⟨p1, p2, p3, p4⟩ := hB.bk w a b hp; exact ⟨_, p1, p2, p3, p4⟩
  · have := hB.gone i (hall i a b hp); exact ⟨this.2.2.2.1, this.2.2.2.2.1⟩
  · exact (hB.gone i (hall i a b hp)).2.2.2.2.2 he
/-- One arc more. -/
theorem bq_new {N : Nat} {arcs : List (Int × Int)} {v u i q : Int} {G ds bs ds' bs' xs : List Int} {c : Nat} (hF : Fine N arcs) (hB : BI N arcs v G ds bs) (h : QJ N arcs u q.toNat G ds xs c) (q0 : 0 ≤ q) (q1 : q < (idxs (keys false arcs) u).length) (hi : i = rdI (idxs (keys false arcs) u) q) (hn : rdI ds (gx arcs i).2 < 0)
    (hd : ds' = ds.set (gx arcs i).2.toNat (rdI ds u + 1)) (hb : bs' = bs.set (gx arcs i).2.toNat i) : BI N arcs v (i :: G) ds' bs' ∧ QJ N arcs u (q + 1).toNat (i :: G) ds' (xs ++ [(gx arcs i).2]) (c + 1) := by
  have ha := qj_at q0 q1
  rw [← hi] at ha
  have hf := gx_fine hF ha.1 ha.2.1
  refine ⟨bi_new hF hB ha.1 ha.2.1 (by rw [ha.2.2]; exact h.ur.2.2) hn (by rw [ha.2.2]; exact hd) hb, qj_push hB.ld (qj_gone h q0 q1 hi) (fun j hj => ?_) hF hf.2.2.1 hf.2.2.2 hn hd⟩
  rcases List.mem_cons.1 hj with rfl | hj
  · rw [ha.2.2]; exact h.ur.2.2
  · exact (hB.gone j hj).2.2.1
theorem bq_min {N : Nat} {arcs : List (Int × Int)} {v u i q : Int} {G ds bs bs' xs : List Int} {c : Nat} (hF : Fine N arcs) (hB : BI N arcs v G ds bs) (h : QJ N arcs u q.toNat G ds xs c) (q0 : 0 ≤ q) (q1 : q < (idxs (keys false arcs) u).length) (hi : i = rdI (idxs (keys false arcs) u) q) (he : rdI ds (gx arcs i).2 = rdI ds u + 1)
    (hb : bs' = bs.set (gx arcs i).2.toNat (min (rdI bs (gx arcs i).2) i)) : BI N arcs v (i :: G) ds bs' ∧ QJ N arcs u (q + 1).toNat (i :: G) ds xs (c + 1) := by
  have ha := qj_at q0 q1
  rw [← hi] at ha
  exact ⟨bi_min hF hB ha.1 ha.2.1 (by rw [ha.2.2]; exact h.ur.2.2) (by rw [ha.2.2]; exact he) hb, qj_gone h q0 q1 hi⟩
theorem bq_old {N : Nat} {arcs : List (Int × Int)} {v u i q : Int} {G ds bs xs : List Int} {c : Nat} (hF : Fine N arcs) (hB : BI N arcs v G ds bs) (h : QJ N arcs u q.toNat G ds xs c) (q0 : 0 ≤ q) (q1 : q < (idxs (keys false arcs) u).length) (hi : i = rdI (idxs (keys false arcs) u) q) (hn : ¬ rdI ds (gx arcs i).2 < 0) (he : ¬ rdI ds (gx arcs i).2 = rdI ds u + 1) :
    BI N arcs v (i :: G) ds bs ∧ QJ N arcs u (q + 1).toNat (i :: G) ds xs (c + 1) := by
  have ha := qj_at q0 q1
  rw [← hi] at ha
  have hf := gx_fine hF ha.1 ha.2.1
  have := h.near _ hf.2.2.1 hf.2.2.2
  exact ⟨bi_old hB ha.1 ha.2.1 (by rw [ha.2.2]; exact h.ur.2.2) (by omega) (by rw [ha.2.2]; omega), qj_gone h q0 q1 hi⟩
theorem fill_step {N : Nat} {a b i : Int} {xs ys : List Int} (h0 : 0 ≤ i) (h1 : i < N) (hx : xs = List.replicate i.toNat a ++ List.replicate (N - i.toNat) b) (hy : ys = xs.set i.toNat a) : ys = List.replicate (i + 1).toNat a ++ List.replicate (N - (i + 1).toNat) b := by
  rw [hy, hx, List.set_append_right _ _ (by simp), List.length_replicate, Nat.sub_self, show N - i.toNat = (N - (i + 1).toNat) + 1 by omega, List.replicate_succ, List.set_cons_zero, show (i + 1).toNat = i.toNat + 1 by omega, List.replicate_succ', List.append_assoc]
  rfl
section
variable {P : Program} {a : Act} {W : World} {dst : Option Nat} {ty : TypeId} {ps : String} {af : Array Edge} {gd : Option (Nat × Bool)}
theorem R_min {x y : Operand} {k : IntKind} {i j : Int} {ts : Array TypeId} (hx : a.eval x = .int k i) (hy : a.eval y = .int k j) :
    (execOp a.eval ⟨dst, .call { callee := .builtin .min, args := #[x, y], argTypes := ts }, ty, ps, af, gd⟩).run P W = .ok (.value (.int k (min i j))) W := by
  have e : (if i < j then i else j) = min i j := by split <;> omega
  have e2 : (if j < i then j else i) = min i j := by split <;> omega
  simp [execOp, resolve, invoke, builtin, hx, hy, Builtin.min_, Builtin.min2, e, e2]
end
theorem below_gc {W0 W W2 : World} {g t : Nat} {cs : List Value} {L : List Ent} (hb : Below W0.heap.size W0 W) (HS : St W (owns [blk g cs t]) W2 L) (hg : W0.heap.size ≤ g) : Below W0.heap.size W0 W2 := by
  refine ⟨HS.kept.os.trans hb.os, HS.kept.tape.trans hb.tape, HS.kept.output.trans hb.output, Nat.le_trans hb.size HS.kept.size, fun k hk => ?_⟩
  rw [HS.kept.block k (Nat.lt_of_lt_of_le hk hb.size) (fun ⟨e, he, ho⟩ => ?_), hb.block k hk]
  rw [List.mem_singleton] at he; subst he
  have : k = g := ho
  omega
theorem St.newge {W0 W : World} {L : List Ent} {e : Ent} (h : St W0 (owns []) W L) {i : Nat} (hi : L[i]? = some e) {k : Nat} (hk : e.own k) : W0.heap.size ≤ k :=
  ((h.has e (List.mem_of_getElem? hi)).2 k hk).2.elim (fun ⟨_, he, _⟩ => nomatch he) id
/-! the document's rounds -/
structure RD (N : Nat) (arcs : List (Int × Int)) (v t d k : Int) (ds : List Int) : Prop where
  ld : ds.length = N
  lo : ∀ w : Int, 0 ≤ w → w < N → -1 ≤ rdI ds w
  ze : ∀ w : Int, 0 ≤ w → w < N → (rdI ds w = 0 ↔ w = v)
  pr : ∀ w : Int, 0 ≤ w → w < N → 0 < rdI ds w → ∃ i : Int, 0 ≤ i ∧ i < arcs.length ∧ (gx arcs i).2 = w ∧ rdI ds (gx arcs i).1 = rdI ds w - 1
  top : ∀ w : Int, 0 ≤ w → w < N → rdI ds w ≤ t
  ar : ∀ i : Int, 0 ≤ i → i < arcs.length → 0 ≤ rdI ds (gx arcs i).1 → (rdI ds (gx arcs i).1 < d ∨ rdI ds (gx arcs i).1 = d ∧ i < k) → 0 ≤ rdI ds (gx arcs i).2 ∧ rdI ds (gx arcs i).2 ≤ rdI ds (gx arcs i).1 + 1
theorem rd_start {N : Nat} {arcs : List (Int × Int)} {v : Int} {ds : List Int} (hF : Fine N arcs) (h0 : 0 ≤ v) (h1 : v < N) (hd : ds = (List.replicate N (-1)).set v.toNat 0) : RD N arcs v 0 0 0 ds := by
  have hl : (List.replicate N (-1 : Int)).length = N := List.length_replicate
  have rd : ∀ x : Int, 0 ≤ x → x < N → rdI ds x = if x = v then 0 else -1 := fun x hx hy => by rw [hd, rdI_set h0 (by omega) hx]; split; rfl; exact rdI_rep hx hy
  refine ⟨by rw [hd, List.length_set]; exact hl, fun w a b => ?_, fun w a b => ?_, fun w a b => ?_, fun w a b => ?_, fun i a b hp hq => by omega⟩
  · rw [rd w a b]; split <;> omega
  · rw [rd w a b]; split
    · rename_i e; exact ⟨fun _ => e, fun _ => rfl⟩
    · rename_i e; exact ⟨fun h => by omega, fun h => absurd h e⟩
  · rw [rd w a b]; split <;> (intro h; omega)
  · rw [rd w a b]; split <;> omega
theorem rd_in {N : Nat} {arcs : List (Int × Int)} {v d : Int} {ds : List Int} (h : RD N arcs v d d 0 ds) : RD N arcs v (d + 1) d 0 ds :=
  ⟨h.ld, h.lo, h.ze, h.pr, fun w a b => by have := h.top w a b; omega, h.ar⟩
theorem rd_out {N : Nat} {arcs : List (Int × Int)} {v d k : Int} {ds : List Int} (h : RD N arcs v (d + 1) d k ds) (hk : arcs.length ≤ k) : RD N arcs v (d + 1) (d + 1) 0 ds :=
  ⟨h.ld, h.lo, h.ze, h.pr, h.top, fun i a b hp hq => h.ar i a b hp (by omega)⟩
theorem rd_skip {N : Nat} {arcs : List (Int × Int)} {v d i : Int} {ds : List Int} (hF : Fine N arcs) (h : RD N arcs v (d + 1) d i ds) (hn : rdI ds (gx arcs i).1 = d → ¬ rdI ds (gx arcs i).2 < 0) : RD N arcs v (d + 1) d (i + 1) ds :=
  ⟨h.ld, h.lo, h.ze, h.pr, h.top, fun j a b hp hq => by
    by_cases e : j = i
    · subst e
      rcases hq with hq | hq
      · exact h.ar j a b hp (.inl hq)
      · have hf := gx_fine hF a b
        have := h.top _ hf.2.2.1 hf.2.2.2
        have := hn hq.1
        omega
    · exact h.ar j a b hp (by omega)⟩
theorem rd_set {N : Nat} {arcs : List (Int × Int)} {v d i : Int} {ds ds' : List Int} (hF : Fine N arcs) (h : RD N arcs v (d + 1) d i ds) (hd0 : 0 ≤ d) (h0 : 0 ≤ i) (h1 : i < arcs.length) (hu : rdI ds (gx arcs i).1 = d) (hn : rdI ds (gx arcs i).2 < 0) (hd : ds' = ds.set (gx arcs i).2.toNat (d + 1)) : RD N arcs v (d + 1) d (i + 1) ds' := by
  have hf := gx_fine hF h0 h1
  have hl := h.ld
  have rd : ∀ x : Int, 0 ≤ x → rdI ds' x = if x = (gx arcs i).2 then d + 1 else rdI ds x := fun x hx => by rw [hd, rdI_set hf.2.2.1 (by omega) hx]
  have hm : ∀ x : Int, 0 ≤ x → 0 ≤ rdI ds x → rdI ds' x = rdI ds x := fun x hx hp => by rw [rd x hx, if_neg]; intro e; subst e; omega
  have hfr := hm _ hf.1 (by omega)
  refine ⟨by rw [hd, List.length_set]; exact hl, fun w a b => ?_, fun w a b => ?_, fun w a b => ?_, fun w a b => ?_, fun j a b hp hq => ?_⟩
  · rw [rd w a]; split
    · omega
    · exact h.lo w a b
  · rw [rd w a]; split
    · rename_i e; subst e
      have := h.ze _ a b
      constructor
      · intro h9; omega
      · intro h9; have := this.2 h9; omega
    · exact h.ze w a b
  · by_cases e : w = (gx arcs i).2
    · intro _
      refine ⟨i, h0, h1, e.symm, ?_⟩
      rw [hfr, rd w a, if_pos e]; omega
    · rw [rd w a, if_neg e]
      intro hp
      obtain ⟨j, p1, p2, p3, p4⟩ := h.pr w a b hp
      exact ⟨j, p1, p2, p3, by rw [hm _ (gx_fine hF p1 p2).1 (by omega), p4]⟩
  · rw [rd w a]; split
    · omega
    · exact h.top w a b
  · have hfj := gx_fine hF a b
    by_cases e : (gx arcs j).1 = (gx arcs i).2
    · rw [rd _ hfj.1, if_pos e] at hq; omega
    · rw [rd _ hfj.1, if_neg e] at hp hq ⊢
      by_cases e2 : (gx arcs j).2 = (gx arcs i).2
      · rw [rd _ hfj.2.2.1, if_pos e2]
        by_cases e3 : j = i
        · subst e3; omega
        · have h9 := h.ar j a b hp (by omega)
          rw [e2] at h9; omega
      · rw [rd _ hfj.2.2.1, if_neg e2]
        exact h.ar j a b hp (by
          rcases hq with hq | hq
          · exact .inl hq
          · refine .inr ⟨hq.1, ?_⟩
            by_cases e3 : j = i
            · subst e3; exact absurd rfl e2
            · omega)
theorem rd_done {N : Nat} {arcs : List (Int × Int)} {v t d : Int} {ds : List Int} (hF : Fine N arcs) (h : RD N arcs v t d 0 ds) (hd : (N : Int) ≤ d) : DS N arcs v ds :=
  ⟨h.ld, h.lo, h.ze, h.pr, fun i a b hp => h.ar i a b hp (.inl (by
    have hf := gx_fine hF a b
    have := lvl h.ld h.ze h.pr hF hf.1 hf.2.1
    omega))⟩
theorem bk_at {N : Nat} {arcs : List (Int × Int)} {v w i : Int} {ds bs : List Int} (hD : DS N arcs v ds) (h : BK N arcs ds bs) (w0 : 0 ≤ w) (w1 : w < N) (h0 : 0 ≤ i) (h1 : i < arcs.length) (hn : ∀ j : Int, 0 ≤ j → j < i → ¬ ((gx arcs j).2 = w ∧ 0 < rdI ds w ∧ rdI ds (gx arcs j).1 = rdI ds w - 1))
    (ht : (gx arcs i).2 = w) (hp : 0 < rdI ds w) (hq : rdI ds (gx arcs i).1 = rdI ds w - 1) : i = rdI bs w := by
  have hb := h.bk w w0 w1 hp
  have h2 := h.le i h0 h1 (by omega) (by rw [ht]; omega)
  rw [ht] at h2
  have h3 := hn (rdI bs w) hb.1
  by_cases e : rdI bs w < i
  · exact absurd ⟨hb.2.2.1, hp, hb.2.2.2⟩ (h3 e)
  · omega
theorem bk_no {N : Nat} {arcs : List (Int × Int)} {w : Int} {ds bs : List Int} (h : BK N arcs ds bs) (w0 : 0 ≤ w) (w1 : w < N) {i : Int} (hi : arcs.length ≤ i) (hn : ∀ j : Int, 0 ≤ j → j < i → ¬ ((gx arcs j).2 = w ∧ 0 < rdI ds w ∧ rdI ds (gx arcs j).1 = rdI ds w - 1)) : rdI bs w = -1 := by
  by_cases hp : 0 < rdI ds w
  · have hb := h.bk w w0 w1 hp
    exact absurd ⟨hb.2.2.1, hp, hb.2.2.2⟩ (hn _ hb.1 (by omega))
  · exact h.no w w0 w1 (by omega)
theorem tot_step {x q n : Int} (h1 : q < 7) (hn : n = if q ≤ 6 then 0 else x) : n + (if q = 6 then x else 0) = if q + 1 ≤ 6 then 0 else x := by
  rw [hn, if_pos (by omega : q ≤ 6)]
  by_cases h : q = 6
  · rw [if_pos h, if_neg (by omega)]; omega
  · rw [if_neg h, if_pos (by omega)]; omega
theorem Rd.ofBlk {W0 W : World} {M : Nat → Prop} {L : List Ent} (HS : St W0 M W L) {i g t : Nat} {cs : List Value} (hi : L[i]? = some (blk g cs t)) : Rd W (some ⟨g, 0, none⟩) cs := by
  intro j v h
  refine ⟨_, rfl, ?_⟩
  have := HS.cell hi (j := j) h
  rwa [show (⟨g, 0, none⟩ : Addr).add j = ⟨g, j, none⟩ by unfold Addr.add; split <;> simp_all]
/-! walks -/
inductive Way (arcs : List (Int × Int)) (a : Int) : Nat → Int → Prop
  | zero : Way arcs a 0 a
  | step {k : Nat} {b c : Int} : Way arcs a k b → (b, c) ∈ arcs → Way arcs a (k + 1) c
theorem way_head {arcs : List (Int × Int)} {a b c : Int} {k : Nat} (ha : (a, b) ∈ arcs) (h : Way arcs b k c) : Way arcs a (k + 1) c := by
  induction h with
  | zero => exact .step .zero ha
  | step _ hb ih => exact .step ih hb
theorem way_swap {arcs : List (Int × Int)} {a b : Int} {k : Nat} (h : Way arcs a k b) : Way (arcs.map swap) b k a := by
  induction h with
  | zero => exact .zero
  | step _ hb ih => exact way_head (List.mem_map.2 ⟨_, hb, rfl⟩) ih
theorem way_app {arcs : List (Int × Int)} {a b c : Int} {k m : Nat} (h : Way arcs a k b) (h2 : Way arcs b m c) : Way arcs a (k + m) c := by
  induction h2 with
  | zero => exact h
  | step _ hb ih => exact .step ih hb
theorem mem_gx {arcs : List (Int × Int)} {b c : Int} (h : (b, c) ∈ arcs) : ∃ i : Int, 0 ≤ i ∧ i < arcs.length ∧ gx arcs i = (b, c) := by
  obtain ⟨i, hi, e⟩ := List.getElem_of_mem h
  refine ⟨(i : Int), by omega, by omega, ?_⟩
  have := gx_eq (xs := arcs) (i := (i : Int)) (by omega) (by omega)
  rw [Int.toNat_natCast, List.getElem?_eq_getElem hi, e] at this
  exact (Option.some.inj this).symm
theorem gx_mem {arcs : List (Int × Int)} {i : Int} (h0 : 0 ≤ i) (h1 : i < arcs.length) : ((gx arcs i).1, (gx arcs i).2) ∈ arcs := List.mem_of_getElem? (gx_eq h0 h1)
theorem way_of {N : Nat} {arcs : List (Int × Int)} {v : Int} {ds : List Int} (hF : Fine N arcs) (h : DS N arcs v ds) : ∀ (d : Nat) (w : Int), 0 ≤ w → w < N → rdI ds w = d → Way arcs v d w
  | 0, w, h0, h1, e => by rw [(h.ze w h0 h1).1 (by omega)]; exact .zero
  | d + 1, w, h0, h1, e => by
    obtain ⟨i, i0, i1, it, ifr⟩ := h.pr w h0 h1 (by omega)
    have hf := gx_fine hF i0 i1
    have h2 := way_of hF h d _ hf.1 hf.2.1 (by omega)
    have hm := gx_mem i0 i1
    rw [it] at hm
    exact .step h2 hm
theorem of_way {N : Nat} {arcs : List (Int × Int)} {v w : Int} {k : Nat} {ds : List Int} (hF : Fine N arcs) (h : DS N arcs v ds) (h0 : 0 ≤ v) (h1 : v < N) (hw : Way arcs v k w) : 0 ≤ w ∧ w < N ∧ 0 ≤ rdI ds w ∧ rdI ds w ≤ k := by
  induction hw with
  | zero => have := (h.ze v h0 h1).2 rfl; omega
  | step _ hb ih =>
    obtain ⟨i, i0, i1, e⟩ := mem_gx hb
    have hf := gx_fine hF i0 i1
    have h2 := h.ar i i0 i1
    rw [e] at h2 hf
    simp only at h2 hf
    omega
theorem ds_mid {N : Nat} {arcs : List (Int × Int)} {u v w : Int} {ds es : List Int} (hF : Fine N arcs) (hd : DS N arcs u ds) (he : DS N arcs v es) (u0 : 0 ≤ u) (u1 : u < N) (v0 : 0 ≤ v) (v1 : v < N) (w0 : 0 ≤ w) (w1 : w < N) : 0 ≤ rdI ds v → 0 ≤ rdI es w → 0 ≤ rdI ds w ∧ rdI ds w ≤ rdI ds v + rdI es w := by
  intro h1 h2
  have a := way_of hF hd (rdI ds v).toNat v v0 v1 (by omega)
  have b := way_of hF he (rdI es w).toNat w w0 w1 (by omega)
  have c := of_way hF hd u0 u1 (way_app a b)
  omega
theorem swap_swap' (arcs : List (Int × Int)) : (arcs.map swap).map swap = arcs := by
  rw [List.map_map, show swap ∘ swap = id from funext fun _ => rfl, List.map_id]
theorem ds_turn {N : Nat} {arcs : List (Int × Int)} {u v : Int} {ds es : List Int} (hF : Fine N arcs) (hd : DS N arcs u ds) (he : DS N (arcs.map swap) v es) (u0 : 0 ≤ u) (u1 : u < N) (v0 : 0 ≤ v) (v1 : v < N) : rdI es u = rdI ds v := by
  have hF2 := fine_swap hF
  have a1 := hd.lo v v0 v1
  have a2 := he.lo u u0 u1
  have b1 : 0 ≤ rdI ds v → 0 ≤ rdI es u ∧ rdI es u ≤ rdI ds v := fun h => by
    have a := way_swap (way_of hF hd (rdI ds v).toNat v v0 v1 (by omega))
    have := of_way hF2 he v0 v1 a
    omega
  have b2 : 0 ≤ rdI es u → 0 ≤ rdI ds v ∧ rdI ds v ≤ rdI es u := fun h => by
    have a := way_swap (way_of hF2 he (rdI es u).toNat u u0 u1 (by omega))
    rw [swap_swap'] at a
    have := of_way hF hd u0 u1 a
    omega
  omega
theorem way_rch {arcs : List (Int × Int)} {a b : Int} {k : Nat} (h : Way arcs a k b) : Rch arcs a b := by
  induction h with
  | zero => exact .refl
  | step _ hb ih => exact .step ih hb
theorem rch_way {arcs : List (Int × Int)} {a b : Int} (h : Rch arcs a b) : ∃ k, Way arcs a k b := by
  induction h with
  | refl => exact ⟨0, .zero⟩
  | step _ hb ih => obtain ⟨k, hk⟩ := ih; exact ⟨k + 1, .step hk hb⟩
theorem ds_rch {N : Nat} {arcs : List (Int × Int)} {v w : Int} {ds : List Int} (hF : Fine N arcs) (h : DS N arcs v ds) (h0 : 0 ≤ v) (h1 : v < N) (w0 : 0 ≤ w) (w1 : w < N) : 0 ≤ rdI ds w ↔ Rch arcs v w := by
  constructor
  · intro hp; exact way_rch (way_of hF h (rdI ds w).toNat w w0 w1 (by omega))
  · intro hr; obtain ⟨k, hk⟩ := rch_way hr; exact (of_way hF h h0 h1 hk).2.2.1
def lcnt (ds : List Int) (d : Int) : Nat := (List.range ds.length).countP (fun w : Nat => decide (0 ≤ rdI ds (w : Int) ∧ rdI ds (w : Int) < d))
theorem countP_two {α : Type} (f : α → Int) (d : Int) (h : 0 ≤ d) : ∀ L : List α, L.countP (fun w => decide (0 ≤ f w ∧ f w < d + 1)) = L.countP (fun w => decide (0 ≤ f w ∧ f w < d)) + L.countP (fun w => decide (f w = d))
  | [] => rfl
  | x :: L => by
    rw [List.countP_cons, List.countP_cons, List.countP_cons, countP_two f d h L]
    by_cases h1 : 0 ≤ f x ∧ f x < d
    · have e1 : decide (0 ≤ f x ∧ f x < d + 1) = true := decide_eq_true (by omega)
      have e2 : decide (0 ≤ f x ∧ f x < d) = true := decide_eq_true (by omega)
      have e3 : decide (f x = d) = false := decide_eq_false (by omega)
      rw [e1, e2, e3]
      simp only [if_true, Bool.false_eq_true, if_false]
      omega
    · by_cases h3 : f x = d
      · have e1 : decide (0 ≤ f x ∧ f x < d + 1) = true := decide_eq_true (by omega)
        have e2 : decide (0 ≤ f x ∧ f x < d) = false := decide_eq_false (by omega)
        have e3 : decide (f x = d) = true := decide_eq_true (by omega)
        rw [e1, e2, e3]
        simp only [if_true, Bool.false_eq_true, if_false]
        omega
      · have e1 : decide (0 ≤ f x ∧ f x < d + 1) = false := decide_eq_false (by omega)
        have e2 : decide (0 ≤ f x ∧ f x < d) = false := decide_eq_false (by omega)
        have e3 : decide (f x = d) = false := decide_eq_false (by omega)
        rw [e1, e2, e3]
        simp only [if_true, Bool.false_eq_true, if_false]
        omega
theorem lcnt_zero (ds : List Int) : lcnt ds 0 = 0 := by
  unfold lcnt; rw [List.countP_eq_zero]; intro x hx; simp only [decide_eq_true_eq]; omega
theorem lcnt_le (ds : List Int) (d : Int) : lcnt ds d ≤ ds.length := by
  unfold lcnt; exact Nat.le_trans List.countP_le_length (by simp)
theorem lcnt_reach {N : Nat} {arcs : List (Int × Int)} {v d : Int} {ds : List Int} (hF : Fine N arcs) (h : DS N arcs v ds) (h0 : 0 ≤ v) (h1 : v < N) (hd : ∀ w : Int, 0 ≤ w → w < N → rdI ds w < d) : lcnt ds d = (reach N arcs v).length := by
  unfold lcnt reach
  rw [List.length_map, ← List.countP_eq_length_filter, h.ld]
  apply List.countP_congr
  intro w hw
  have hw2 : w < N := by simpa using hw
  have hr := ds_rch hF h h0 h1 (w := (w : Int)) (by omega) (by omega)
  have hb := hd (w : Int) (by omega) (by omega)
  simp only [decide_eq_true_eq]
  exact ⟨fun h9 => hr.1 h9.1, fun h9 => ⟨hr.2 h9, hb⟩⟩
theorem lcnt_none {N : Nat} {arcs : List (Int × Int)} {v d : Int} {ds : List Int} (hF : Fine N arcs) (h : DS N arcs v ds) (hv : ¬ (0 ≤ v ∧ v < N)) : lcnt ds d = 0 := by
  rw [ds_eq hF h (ds_none hF hv)]
  unfold lcnt; rw [List.countP_eq_zero]; intro x hx
  simp only [List.mem_range, List.length_replicate] at hx
  rw [rdI_rep (by omega) (by omega)]; simp
attribute [irreducible] lcnt

end Go.Proofs.Ythfpdpjccnnlhaa.GBfsTells
