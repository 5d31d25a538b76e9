/- Written for this claim by gp.py, a program of this session's, over the kit's print. Lean checks it. -/
import Derived.Test.YthfpdpjccnnlhaaGBfsLayersx0
import Derived.Test.YthfpdpjccnnlhaaGBfsLayershx
import Derived.Test.YthfpdpjccnnlhaaGBfsLayershhp1
import Derived.Test.YthfpdpjccnnlhaaGBfsLayershhp2
import Derived.WalkKit
import Derived.StillTailTactics
import Derived.Deep.LoopGhost
import Derived.KernelRfl
import Derived.Deep.OwnRows
import Derived.Laws.OwnMore
import Derived.Laws.MakeOwn
import Derived.Maps.AppendAt
import Derived.OrdersHeld
namespace Go.Proofs.Ythfpdpjccnnlhaa.GBfsLayers
open Go.RowKit Go.Proofs.YthfpdpjccnnlhaaW.PrintWords Go.Proofs.YthfpdpjccnnlhaaW.PrintLast Go.Proofs.YthfpdpjccnnlhaaW.PrintMore
attribute [local go_sem] max2_int min2_int max_two min_two max_three min_three max_four min_four   -- for this text's walks alone
set_option linter.unusedVariables false
set_option linter.unusedSimpArgs false

--import Derived.WalkKit
--import Derived.StillTailTactics
--import Derived.Deep.LoopGhost
--import Derived.KernelRfl
--import Derived.Deep.OwnRows
--import Derived.Laws.OwnMore
--import Derived.Laws.MakeOwn
--import Derived.Maps.AppendAt
--import Derived.OrdersHeld
/-! ### chapter 10: what a graph is in memory, and the plain words -/
def arcC (a : Int × Int) : List Value := [.int .i64 a.1, .int .i64 a.2]
def key (b : Bool) (a : Int × Int) : Int := if b = true then a.2 else a.1
def cnt (ks : List Int) (v : Int) : Nat := ks.countP (fun k => decide (k = v))
def low (ks : List Int) (v : Int) : Nat := ks.countP (fun k => decide (k < v))
def idxs (ks : List Int) (v : Int) : List Int := ((List.range ks.length).filter (fun j => decide (ks.getD j 0 = v))).map (fun (j : Nat) => (j : Int))
theorem cnt_le (ks : List Int) (v : Int) : cnt ks v ≤ ks.length := List.countP_le_length
theorem low_le (ks : List Int) (v : Int) : low ks v ≤ ks.length := List.countP_le_length
theorem cnt_snoc (ks : List Int) (k v : Int) : cnt (ks ++ [k]) v = cnt ks v + if k = v then 1 else 0 := by
  unfold cnt; rw [List.countP_append]; by_cases h : k = v <;> simp [h]
theorem low_succ (ks : List Int) (v : Int) : low ks (v + 1) = low ks v + cnt ks v := by
  unfold low cnt
  induction ks with
  | nil => rfl
  | cons k ks ih =>
    simp only [List.countP_cons]
    by_cases h1 : k < v
    · have h2 : k < v + 1 := by omega
      have h3 : ¬ k = v := by omega
      simp only [h1, h2, h3, decide_true, decide_false, if_true]; simp; omega
    · by_cases h2 : k = v
      · have h3 : k < v + 1 := by omega
        simp only [h3, h2, decide_true, if_true, show ¬ v < v by omega, decide_false, show v < v + 1 by omega]; simp; omega
      · have h3 : ¬ k < v + 1 := by omega
        simp only [h1, h2, h3, decide_false]; simp; omega
theorem low_add (ks : List Int) (v : Int) : low ks v + cnt ks v ≤ ks.length := by rw [← low_succ]; exact low_le _ _
theorem low_mono (ks : List Int) {u v : Int} (h : u ≤ v) : low ks u ≤ low ks v := by
  unfold low; exact List.countP_mono_left (fun x _ hx => by simp at hx ⊢; omega)
theorem low_sep (ks : List Int) {u v : Int} (h : u < v) : low ks u + cnt ks u ≤ low ks v := by rw [← low_succ]; exact low_mono ks (by omega)
theorem low_zero {ks : List Int} (h : ∀ k ∈ ks, 0 ≤ k) : low ks 0 = 0 := by
  unfold low; rw [List.countP_eq_zero]; intro x hx; have := h x hx; simp; omega
theorem cnt_none {ks : List Int} {v : Int} (h : ∀ k ∈ ks, k ≠ v) : cnt ks v = 0 := by
  unfold cnt; rw [List.countP_eq_zero]; intro x hx; simp; exact h x hx
theorem idxs_snoc (ks : List Int) (k v : Int) : idxs (ks ++ [k]) v = idxs ks v ++ if k = v then [(ks.length : Int)] else [] := by
  unfold idxs
  rw [List.length_append, List.length_singleton, List.range_succ, List.filter_append, List.map_append]
  congr 1
  · congr 1
    apply List.filter_congr
    intro j hj
    have hj' : j < ks.length := by simpa using hj
    rw [List.getD_eq_getElem?_getD, List.getD_eq_getElem?_getD, List.getElem?_append_left hj']
  · have e : (ks ++ [k]).getD ks.length 0 = k := by simp
    by_cases h : k = v
    · subst h; simp [e]
    · simp [e, h]
theorem snoc_ind {α : Type} {P : List α → Prop} (h0 : P []) (h1 : ∀ l a, P l → P (l ++ [a])) (l : List α) : P l := by
  rw [← List.reverse_reverse l]
  induction l.reverse with
  | nil => exact h0
  | cons a l ih => rw [List.reverse_cons]; exact h1 _ _ ih
theorem idxs_length (ks : List Int) (v : Int) : (idxs ks v).length = cnt ks v := by
  induction ks using snoc_ind with
  | h0 => rfl
  | h1 ks k ih =>
    rw [idxs_snoc, cnt_snoc, List.length_append, ih]
    by_cases h : k = v <;> simp [h]
theorem take_snoc {α : Type} {l : List α} {i : Nat} {x : α} (h : l[i]? = some x) : l.take (i + 1) = l.take i ++ [x] := by
  obtain ⟨hi, e⟩ := List.getElem?_eq_some_iff.1 h
  rw [List.take_succ_eq_append_getElem hi, e]
/-! the list of begins -/
def bg (N : Nat) (ks : List Int) : List Int := (List.range (N + 1)).map (fun (v : Nat) => ((cnt ks ((v : Int) - 1) : Nat) : Int))
def bl (N : Nat) (ks : List Int) : List Int := (List.range (N + 1)).map (fun (v : Nat) => ((low ks (v : Int) : Nat) : Int))
def bm (N : Nat) (ks : List Int) (k : Nat) : List Int := (List.range (N + 1)).map (fun (v : Nat) => if v ≤ k then ((low ks (v : Int) : Nat) : Int) else ((cnt ks ((v : Int) - 1) : Nat) : Int))
def ba (N : Nat) (ks : List Int) (i : Nat) : List Int := (List.range (N + 1)).map (fun (v : Nat) => ((low ks (v : Int) + cnt (ks.take i) (v : Int) : Nat) : Int))
theorem rg_len {α : Type} (n : Nat) (f : Nat → α) : ((List.range n).map f).length = n := by simp
theorem rg_get {α : Type} (n : Nat) (f : Nat → α) {v : Nat} (h : v < n) : ((List.range n).map f)[v]? = some (f v) := by simp [h]
theorem rg_rd (n : Nat) (f : Nat → Int) {v : Int} (h0 : 0 ≤ v) (h : v < n) : rdI ((List.range n).map f) v = f v.toNat := by
  have h1 : v.toNat < n := by omega
  simp [rdI, h1]
theorem rg_set {α : Type} (n : Nat) (f g : Nat → α) (v : Nat) (x : α) (hx : v < n → x = g v) (h : ∀ u, u < n → u ≠ v → f u = g u) : ((List.range n).map f).set v x = (List.range n).map g := by
  apply List.ext_getElem?
  intro u
  rcases Nat.lt_or_ge u n with hu | hu
  · rw [rg_get n g hu]
    rcases Nat.decEq u v with e | rfl
    · rw [List.getElem?_set_ne (Ne.symm e), rg_get n f hu, h u hu e]
    · rw [List.getElem?_set_self (by simpa using hu), hx hu]
  · rw [List.getElem?_eq_none (by simpa using hu), List.getElem?_eq_none (by simpa using hu)]
theorem bl_len (N : Nat) (ks : List Int) : (bl N ks).length = N + 1 := by simp [bl]
theorem bg_nil (N : Nat) : bg N [] = List.replicate (N + 1) 0 := by
  apply List.ext_getElem?; intro u
  rcases Nat.lt_or_ge u (N + 1) with hu | hu
  · rw [bg, rg_get _ _ hu, List.getElem?_replicate, if_pos hu]; rfl
  · rw [List.getElem?_eq_none (by simpa [bg] using hu), List.getElem?_eq_none (by simpa using hu)]
theorem bg_step {N : Nat} {ks : List Int} {i : Nat} {k : Int} (hk : ks[i]? = some k) (h0 : 0 ≤ k) (h1 : k < N) : (bg N (ks.take i)).set (k + 1).toNat (rdI (bg N (ks.take i)) (k + 1) + 1) = bg N (ks.take (i + 1)) := by
  rw [take_snoc hk]
  refine rg_set _ _ _ _ _ (fun hv => ?_) (fun u hu hne => ?_)
  · rw [bg, rg_rd _ _ (by omega) (by omega), cnt_snoc, if_pos (by omega)]; omega
  · rw [cnt_snoc, if_neg (by omega), Nat.add_zero]
theorem bg_rd {N : Nat} {ks : List Int} {v : Int} (h0 : 0 ≤ v) (h1 : v < (N : Int) + 1) : rdI (bg N ks) v = (cnt ks (v - 1) : Int) := by
  rw [bg, rg_rd _ _ h0 (by omega)]; rw [show ((v.toNat : Nat) : Int) = v by omega]
theorem bg_bm {N : Nat} {ks : List Int} (h : ∀ k ∈ ks, 0 ≤ k) : bg N ks = bm N ks 0 := by
  apply List.map_congr_left
  intro v hv
  by_cases h0 : v ≤ 0
  · have : v = 0 := by omega
    subst this
    rw [if_pos h0, show ((0 : Nat) : Int) - 1 = -1 from rfl, show ((0 : Nat) : Int) = 0 from rfl, low_zero h, cnt_none (fun k hk => by have := h k hk; omega)]
  · rw [if_neg h0]
theorem bm_rd {N : Nat} {ks : List Int} {k : Nat} {v : Int} (h0 : 0 ≤ v) (h1 : v < (N : Int) + 1) : rdI (bm N ks k) v = if v.toNat ≤ k then (low ks v : Int) else (cnt ks (v - 1) : Int) := by
  rw [bm, rg_rd _ _ h0 (by omega)]; rw [show ((v.toNat : Nat) : Int) = v by omega]
theorem bm_step {N : Nat} {ks : List Int} {k : Int} (h0 : 0 ≤ k) (h1 : k < N) : (bm N ks k.toNat).set (k + 1).toNat (rdI (bm N ks k.toNat) (k + 1) + rdI (bm N ks k.toNat) k) = bm N ks (k + 1).toNat := by
  refine rg_set _ _ _ _ _ (fun hv => ?_) (fun u hu hne => ?_)
  · rw [bm_rd (by omega) (by omega), bm_rd (by omega) (by omega), if_neg (by omega), if_pos (by omega), if_pos (by omega), show (((k + 1).toNat : Nat) : Int) = k + 1 by omega, low_succ, show k + 1 - 1 = k by omega]
    omega
  · by_cases hu2 : u ≤ k.toNat
    · rw [if_pos hu2, if_pos (by omega)]
    · rw [if_neg hu2, if_neg (by omega)]
theorem bm_bl {N : Nat} {ks : List Int} : bm N ks N = bl N ks := by
  apply List.map_congr_left; intro v hv; rw [if_pos (by have := List.mem_range.1 hv; omega)]
theorem bl_ba {N : Nat} {ks : List Int} : bl N ks = ba N ks 0 := by
  apply List.map_congr_left; intro v hv; rfl
theorem ba_rd {N : Nat} {ks : List Int} {i : Nat} {v : Int} (h0 : 0 ≤ v) (h1 : v < (N : Int) + 1) : rdI (ba N ks i) v = ((low ks v + cnt (ks.take i) v : Nat) : Int) := by
  rw [ba, rg_rd _ _ h0 (by omega)]; rw [show ((v.toNat : Nat) : Int) = v by omega]
theorem bl_rd {N : Nat} {ks : List Int} {v : Int} (h0 : 0 ≤ v) (h1 : v < (N : Int) + 1) : rdI (bl N ks) v = (low ks v : Int) := by
  rw [bl, rg_rd _ _ h0 (by omega)]; rw [show ((v.toNat : Nat) : Int) = v by omega]
theorem ba_step {N : Nat} {ks : List Int} {i : Nat} {k : Int} (hk : ks[i]? = some k) (h0 : 0 ≤ k) (h1 : k < N) : (ba N ks i).set k.toNat (rdI (ba N ks i) k + 1) = ba N ks (i + 1) := by
  refine rg_set _ _ _ _ _ (fun hv => ?_) (fun u hu hne => ?_)
  · rw [ba_rd (by omega) (by omega), take_snoc hk, cnt_snoc, show ((k.toNat : Nat) : Int) = k by omega, if_pos rfl]; omega
  · rw [take_snoc hk, cnt_snoc, if_neg (by omega), Nat.add_zero]
theorem cnt_lt {ks : List Int} {i : Nat} {k : Int} (hk : ks[i]? = some k) : cnt (ks.take i) k < cnt ks k := by
  have h1 := take_snoc hk
  have h2 : cnt (ks.take (i + 1)) k ≤ cnt ks k := by
    unfold cnt; exact (List.take_sublist _ _).countP_le
  rw [h1, cnt_snoc, if_pos rfl] at h2
  omega
theorem cnt_take_le (ks : List Int) (i : Nat) (k : Int) : cnt (ks.take i) k ≤ cnt ks k := by unfold cnt; exact (List.take_sublist _ _).countP_le
/-- The arcs stand where their nodes' begin. -/
def Laid (ks : List Int) (m : Nat) (i : Nat) (os : List Int) : Prop := os.length = m ∧ (∀ x ∈ os, 0 ≤ x ∧ x ≤ 67108864) ∧ ∀ (v : Int) (r : Nat) (x : Int), (idxs (ks.take i) v)[r]? = some x → os[low ks v + r]? = some x
theorem laid_zero (ks : List Int) (m : Nat) : Laid ks m 0 (List.replicate m 0) := by
  refine ⟨by simp, fun x hx => ?_, fun v r x h => ?_⟩
  · have := (List.mem_replicate.1 hx).2; omega
  · simp [idxs] at h
theorem laid_step {ks : List Int} {m i : Nat} {os : List Int} {k : Int} (h : Laid ks m i os) (hm : ks.length = m) (hm2 : m ≤ 67108864) (hk : ks[i]? = some k) : Laid ks m (i + 1) (os.set (low ks k + cnt (ks.take i) k) (i : Int)) := by
  have hi : i < m := by rw [← hm]; exact (List.getElem?_eq_some_iff.1 hk).1
  have hlt : low ks k + cnt (ks.take i) k < m := by have := cnt_lt hk; have := low_add ks k; omega
  refine ⟨by rw [List.length_set]; exact h.1, fun x hx => ?_, fun v r x hx => ?_⟩
  · rcases List.mem_or_eq_of_mem_set hx with h1 | h1
    · exact h.2.1 x h1
    · omega
  · rw [take_snoc hk, idxs_snoc] at hx
    have hl : (ks.take i).length = i := by rw [List.length_take]; omega
    rcases Nat.lt_or_ge r (idxs (ks.take i) v).length with hr | hr
    · rw [List.getElem?_append_left hr] at hx
      rw [idxs_length] at hr
      have hne : low ks k + cnt (ks.take i) k ≠ low ks v + r := by
        rcases Int.lt_trichotomy k v with hkv | hkv | hkv
        · have h1 := low_sep ks hkv
          have h2 := cnt_lt hk
          omega
        · subst hkv; omega
        · have h1 := low_sep ks hkv
          have h2 := cnt_take_le ks i v
          omega
      rw [List.getElem?_set_ne hne]
      exact h.2.2 v r x hx
    · rw [List.getElem?_append_right hr] at hx
      by_cases hkv : k = v
      · subst hkv
        rw [if_pos rfl, idxs_length] at hx
        rw [idxs_length] at hr
        have hr0 : r - cnt (ks.take i) k = 0 := by
          have := (List.getElem?_eq_some_iff.1 hx).1; simp at this; omega
        rw [hr0] at hx
        simp only [List.getElem?_cons_zero, Option.some.injEq, hl] at hx
        have hr1 : r = cnt (ks.take i) k := by omega
        rw [hr1, List.getElem?_set_self (by rw [h.1]; exact hlt), ← hx]
      · rw [if_neg hkv] at hx; simp at hx
theorem laid_next {ks : List Int} {m : Nat} {i p : Int} {os xs : List Int} {k : Int} (h : Laid ks m i.toNat os) (hm : ks.length = m) (hm2 : m ≤ 67108864) (h0 : 0 ≤ i) (hk : ks[i.toNat]? = some k) (hp : p = ((low ks k + cnt (ks.take i.toNat) k : Nat) : Int)) (hx : xs = os.set p.toNat i) : Laid ks m (i + 1).toNat xs := by
  have e : p.toNat = low ks k + cnt (ks.take i.toNat) k := by omega
  have := laid_step h hm hm2 hk
  rw [hx, e, show (i + 1).toNat = i.toNat + 1 by omega]
  rwa [show ((i.toNat : Nat) : Int) = i by omega] at this
theorem laid_slice {ks : List Int} {m : Nat} {os : List Int} (h : Laid ks m ks.length os) (hm : ks.length = m) (v : Int) : (os.drop (low ks v)).take (cnt ks v) = idxs ks v := by
  have hl := low_add ks v
  apply List.ext_getElem?
  intro r
  rcases Nat.lt_or_ge r (cnt ks v) with hr | hr
  · have hr2 : r < (idxs ks v).length := by rw [idxs_length]; exact hr
    rw [List.getElem?_take_of_lt hr, List.getElem?_drop, List.getElem?_eq_getElem hr2]
    exact h.2.2 v r _ (by rw [List.take_length]; exact List.getElem?_eq_getElem hr2)
  · rw [List.getElem?_eq_none (by rw [List.length_take]; omega), List.getElem?_eq_none (by rw [idxs_length]; omega)]
def keys (b : Bool) (arcs : List (Int × Int)) : List Int := arcs.map (key b)
theorem keys_len (b : Bool) (arcs : List (Int × Int)) : (keys b arcs).length = arcs.length := by simp [keys]
theorem keys_get {b : Bool} {arcs : List (Int × Int)} {i : Int} (h0 : 0 ≤ i) (h1 : i < arcs.length) : (keys b arcs)[i.toNat]? = some (key b (gx arcs i)) := by
  rw [keys, List.getElem?_map, gx_eq h0 h1]; rfl
def Fine (N : Nat) (arcs : List (Int × Int)) : Prop := ∀ a ∈ arcs, 0 ≤ a.1 ∧ a.1 < N ∧ 0 ≤ a.2 ∧ a.2 < N
theorem key_fine {N : Nat} {arcs : List (Int × Int)} (h : Fine N arcs) {b : Bool} {i : Int} (h0 : 0 ≤ i) (h1 : i < arcs.length) : 0 ≤ key b (gx arcs i) ∧ key b (gx arcs i) < N := by
  have := h _ (List.mem_of_getElem? (gx_eq h0 h1))
  unfold key; split <;> omega
theorem keys_fine {N : Nat} {arcs : List (Int × Int)} (h : Fine N arcs) {b : Bool} : ∀ k ∈ keys b arcs, 0 ≤ k ∧ k < N := by
  intro k hk
  simp only [keys, List.mem_map] at hk
  obtain ⟨a, ha, rfl⟩ := hk
  have := h a ha
  unfold key; split <;> omega
attribute [irreducible] cnt low idxs bg bl bm ba key keys
/-! New -/
def fineB (n : Int) (a : Int × Int) : Bool := decide (0 ≤ a.1 ∧ a.1 < n ∧ 0 ≤ a.2 ∧ a.2 < n)
def chk (n : Int) (arcs : List (Int × Int)) : Int := if n < 0 then 2 else if 1048576 < n ∨ 67108864 < arcs.length then 5 else if arcs.all (fineB n) then 0 else 7
theorem chk2 {n : Int} {arcs : List (Int × Int)} (h : n < 0) : chk n arcs = 2 := by unfold chk; rw [if_pos h]
theorem chk5 {n : Int} {arcs : List (Int × Int)} (h : ¬ n < 0) (h2 : 1048576 < n ∨ 67108864 < arcs.length) : chk n arcs = 5 := by unfold chk; rw [if_neg h, if_pos h2]
theorem chk7 {n : Int} {arcs : List (Int × Int)} {i : Int} (h : ¬ n < 0) (h2 : ¬ (1048576 < n ∨ 67108864 < arcs.length)) (h0 : 0 ≤ i) (h1 : i < arcs.length) (hb : ¬ (0 ≤ (gx arcs i).1 ∧ (gx arcs i).1 < n ∧ 0 ≤ (gx arcs i).2 ∧ (gx arcs i).2 < n)) : chk n arcs = 7 := by
  unfold chk; rw [if_neg h, if_neg h2, if_neg]
  intro ha
  have := List.all_eq_true.1 ha _ (List.mem_of_getElem? (gx_eq h0 h1))
  simp only [fineB, decide_eq_true_eq] at this
  exact hb this
theorem chk0 {N : Nat} {arcs : List (Int × Int)} (h2 : ¬ (1048576 < (N : Int) ∨ 67108864 < arcs.length)) (hF : Fine N arcs) : chk (N : Int) arcs = 0 := by
  unfold chk; rw [if_neg (by omega), if_neg h2, if_pos]
  exact List.all_eq_true.2 fun a ha => by have := hF a ha; simp only [fineB, decide_eq_true_eq]; exact this
theorem chk0_inv {n : Int} {arcs : List (Int × Int)} (h : chk n arcs = 0) : 0 ≤ n ∧ n ≤ 1048576 ∧ arcs.length ≤ 67108864 ∧ Fine n.toNat arcs := by
  unfold chk at h
  split at h
  · omega
  · split at h
    · omega
    · split at h
      · rename_i h1 h2 h3
        refine ⟨by omega, by omega, by omega, fun a ha => ?_⟩
        have := List.all_eq_true.1 h3 a ha
        simp only [fineB, decide_eq_true_eq] at this
        omega
      · omega
theorem fine_step {N : Nat} {arcs : List (Int × Int)} {i : Int} (h : Fine N (arcs.take i.toNat)) (h0 : 0 ≤ i) (h1 : i < arcs.length) (hb : 0 ≤ (gx arcs i).1 ∧ (gx arcs i).1 < N ∧ 0 ≤ (gx arcs i).2 ∧ (gx arcs i).2 < N) : Fine N (arcs.take (i + 1).toNat) := by
  rw [show (i + 1).toNat = i.toNat + 1 by omega, take_snoc (gx_eq h0 h1)]
  intro a ha
  rcases List.mem_append.1 ha with h2 | h2
  · exact h a h2
  · rw [List.mem_singleton] at h2; subst h2; exact hb
/-! Next, Turn -/
def swap (a : Int × Int) : Int × Int := (a.2, a.1)
theorem keys_swap (b : Bool) (arcs : List (Int × Int)) : keys b (arcs.map swap) = keys (!b) arcs := by
  unfold keys; rw [List.map_map]; apply List.map_congr_left; intro a _; unfold key swap; cases b <;> rfl
theorem fine_swap {N : Nat} {arcs : List (Int × Int)} (h : Fine N arcs) : Fine N (arcs.map swap) := by
  intro a ha; simp only [List.mem_map] at ha; obtain ⟨b, hb, rfl⟩ := ha; have := h b hb; unfold swap; omega
theorem swap_step {arcs xs ys : List (Int × Int)} {i : Int} (hx : xs = (arcs.take i.toNat).map swap ++ List.replicate (arcs.length - i.toNat) (0, 0)) (hy : ys = xs.set i.toNat ((gx arcs i).2, (gx arcs i).1)) (h0 : 0 ≤ i) (h1 : i < arcs.length) :
    ys = (arcs.take (i + 1).toNat).map swap ++ List.replicate (arcs.length - (i + 1).toNat) (0, 0) := by
  have hi : i.toNat < arcs.length := by omega
  rw [hy, hx, show (i + 1).toNat = i.toNat + 1 by omega, take_snoc (gx_eq h0 h1), List.map_append, List.set_append_right _ _ (by simp; omega), show arcs.length - i.toNat = (arcs.length - (i.toNat + 1)) + 1 by omega, List.replicate_succ,
    show i.toNat - ((arcs.take i.toNat).map swap).length = 0 by simp; omega, List.set_cons_zero, List.append_assoc]
  rfl
def nexts (arcs : List (Int × Int)) (v : Int) : List Int := (idxs (keys false arcs) v).map (fun i => (gx arcs i).2)
theorem idxs_mem {ks : List Int} {v x : Int} (h : x ∈ idxs ks v) : 0 ≤ x ∧ x < ks.length ∧ ks[x.toNat]? = some v := by
  unfold idxs at h
  simp only [List.mem_map, List.mem_filter, List.mem_range] at h
  obtain ⟨j, ⟨hj, hk⟩, rfl⟩ := h
  refine ⟨by omega, by omega, ?_⟩
  rw [Int.toNat_natCast, List.getElem?_eq_getElem hj]
  simp [hj] at hk
  rw [hk]
theorem next_step {arcs : List (Int × Int)} {ls xs ys : List Int} {i : Int} (hx : xs = (ls.take i.toNat).map (fun i => (gx arcs i).2) ++ ls.drop i.toNat) (h0 : 0 ≤ i) (h1 : i < ls.length) (hy : ys = xs.set i.toNat (gx arcs (rdI xs i)).2) :
    rdI xs i = rdI ls i ∧ ys = (ls.take (i + 1).toNat).map (fun i => (gx arcs i).2) ++ ls.drop (i + 1).toNat := by
  have hi : i.toNat < ls.length := by omega
  have hl : ((ls.take i.toNat).map (fun i => (gx arcs i).2)).length = i.toNat := by simp; omega
  have hd : ls.drop i.toNat = rdI ls i :: ls.drop (i.toNat + 1) := by
    rw [List.drop_eq_getElem_cons hi]; congr 1
    have := rdI_eq h0 h1; rw [List.getElem?_eq_getElem hi] at this; exact Option.some.inj this
  have hr : rdI xs i = rdI ls i := by
    have h2 : i < (xs.length : Int) := by rw [hx, List.length_append, hl, List.length_drop]; omega
    have h3 := rdI_eq h0 h2
    rw [hx, List.getElem?_append_right (by omega), hl, Nat.sub_self, hd, List.getElem?_cons_zero, ← hd, ← hx] at h3
    exact (Option.some.inj h3).symm
  refine ⟨hr, ?_⟩
  rw [hy, hr, hx, show (i + 1).toNat = i.toNat + 1 by omega, take_snoc (rdI_eq h0 h1), List.map_append, List.set_append_right _ _ (by omega), hl, Nat.sub_self, hd, List.set_cons_zero, List.append_assoc]
  rfl
theorem nexts_len (arcs : List (Int × Int)) (v : Int) : (nexts arcs v).length = (idxs (keys false arcs) v).length := by unfold nexts; simp
theorem idxs_le (b : Bool) (arcs : List (Int × Int)) (v : Int) : (idxs (keys b arcs) v).length ≤ arcs.length := by rw [idxs_length, ← keys_len b arcs]; exact cnt_le _ _
attribute [irreducible] nexts chk
/-! Reach -/
inductive Rch (arcs : List (Int × Int)) (v : Int) : Int → Prop
  | refl : Rch arcs v v
  | step {u w : Int} : Rch arcs v u → (u, w) ∈ arcs → Rch arcs v w
theorem mem_nexts {arcs : List (Int × Int)} {u w : Int} : w ∈ nexts arcs u ↔ (u, w) ∈ arcs := by
  unfold nexts
  simp only [List.mem_map]
  constructor
  · rintro ⟨i, hi, rfl⟩
    obtain ⟨h0, h1, h2⟩ := idxs_mem hi
    rw [keys_len] at h1
    have h3 := gx_eq (xs := arcs) h0 h1
    rw [keys_get h0 h1] at h2
    have h4 : (gx arcs i).1 = u := by have := Option.some.inj h2; unfold key at this; simpa using this
    have h5 := List.mem_of_getElem? h3
    rw [← h4]; exact h5
  · intro h
    obtain ⟨i, hi, e⟩ := List.getElem_of_mem h
    have hg : arcs[i]? = some (u, w) := by rw [List.getElem?_eq_getElem hi, e]
    have hgx : gx arcs (i : Int) = (u, w) := by
      have := gx_eq (xs := arcs) (i := (i : Int)) (by omega) (by omega)
      rw [Int.toNat_natCast, hg] at this; exact (Option.some.inj this).symm
    refine ⟨(i : Int), ?_, by rw [hgx]⟩
    unfold idxs
    simp only [List.mem_map, List.mem_filter, List.mem_range]
    refine ⟨i, ⟨by rw [keys_len]; exact hi, ?_⟩, rfl⟩
    have hk := keys_get (b := false) (arcs := arcs) (i := (i : Int)) (by omega) (by omega)
    rw [Int.toNat_natCast] at hk
    rw [List.getD_eq_getElem?_getD, hk, hgx]
    unfold key; simp
def zs (bs : List Int) : Nat := bs.countP (fun b => decide (b = 0))
def Mk (N : Nat) (bs : List Int) (w : Int) : Prop := 0 ≤ w ∧ w < N ∧ rdI bs w = 1
structure RB (N : Nat) (arcs : List (Int × Int)) (v : Int) (bs ws : List Int) : Prop where
  len : bs.length = N
  bit : ∀ w : Int, 0 ≤ w → w < N → rdI bs w = 0 ∨ rdI bs w = 1
  sound : ∀ w, Mk N bs w → Rch arcs v w
  first : Mk N bs v
  work : ∀ x ∈ ws, Mk N bs x
def RInv (N : Nat) (arcs : List (Int × Int)) (v : Int) (bs ws : List Int) : Prop := RB N arcs v bs ws ∧ ∀ u, Mk N bs u → u ∉ ws → ∀ w ∈ nexts arcs u, Mk N bs w
def RIn (N : Nat) (arcs : List (Int × Int)) (v t : Int) (k : Nat) (bs ws : List Int) : Prop := RB N arcs v bs ws ∧ Mk N bs t ∧ (∀ u, Mk N bs u → u ∉ ws → u ≠ t → ∀ w ∈ nexts arcs u, Mk N bs w) ∧ ∀ w ∈ (nexts arcs t).take k, Mk N bs w
theorem rdI_set {bs : List Int} {w x b : Int} (h0 : 0 ≤ w) (h1 : w < bs.length) (hx : 0 ≤ x) : rdI (bs.set w.toNat b) x = if x = w then b else rdI bs x := by
  by_cases h : x = w
  · subst h; rw [if_pos rfl]
    have := rdI_eq (xs := bs.set x.toNat b) h0 (by rw [List.length_set]; exact h1)
    rw [List.getElem?_set_self (by omega)] at this; exact (Option.some.inj this).symm
  · rw [if_neg h]
    rcases Int.lt_or_le x bs.length with h2 | h2
    · have h3 := rdI_eq (xs := bs.set w.toNat b) hx (by rw [List.length_set]; exact h2)
      rw [List.getElem?_set_ne (by omega), rdI_eq hx h2] at h3
      exact (Option.some.inj h3).symm
    · unfold rdI; rw [List.getD_eq_getElem?_getD, List.getD_eq_getElem?_getD, List.getElem?_eq_none (by rw [List.length_set]; omega), List.getElem?_eq_none (by omega)]
theorem rdI_rep {n : Nat} {b x : Int} (h0 : 0 ≤ x) (h1 : x < n) : rdI (List.replicate n b) x = b := by
  have := rdI_eq (xs := List.replicate n b) h0 (by simpa using h1)
  rw [List.getElem?_replicate, if_pos (by omega)] at this; exact (Option.some.inj this).symm
theorem zs_set {bs : List Int} {w : Int} (h0 : 0 ≤ w) (h1 : w < bs.length) (h : rdI bs w = 0) : zs (bs.set w.toNat 1) + 1 = zs bs := by
  unfold zs
  have hw : w.toNat < bs.length := by omega
  have he : bs[w.toNat] = 0 := by have := rdI_eq h0 h1; rw [List.getElem?_eq_getElem hw] at this; rw [← h]; exact Option.some.inj this
  rw [List.countP_set hw]
  simp [he]
  have : 0 < List.countP (fun b => decide (b = 0)) bs := List.countP_pos_iff.2 ⟨_, List.getElem_mem hw, by simp [he]⟩
  omega
theorem zs_le (bs : List Int) : zs bs ≤ bs.length := List.countP_le_length
theorem mk_set {N : Nat} {bs : List Int} {w x : Int} (hl : bs.length = N) (h0 : 0 ≤ w) (h1 : w < N) (h : Mk N bs x) : Mk N (bs.set w.toNat 1) x := by
  refine ⟨h.1, h.2.1, ?_⟩
  rw [rdI_set h0 (by omega) h.1]; split
  · rfl
  · exact h.2.2
theorem mk_set_self {N : Nat} {bs : List Int} {w : Int} (hl : bs.length = N) (h0 : 0 ≤ w) (h1 : w < N) : Mk N (bs.set w.toNat 1) w := ⟨h0, h1, by rw [rdI_set h0 (by omega) h0, if_pos rfl]⟩
theorem mk_set_inv {N : Nat} {bs : List Int} {w x : Int} (hl : bs.length = N) (h0 : 0 ≤ w) (h1 : w < N) (h : Mk N (bs.set w.toNat 1) x) : x = w ∨ Mk N bs x := by
  by_cases hx : x = w
  · exact .inl hx
  · refine .inr ⟨h.1, h.2.1, ?_⟩
    have := h.2.2; rwa [rdI_set h0 (by omega) h.1, if_neg hx] at this
theorem rinv_start {N : Nat} {arcs : List (Int × Int)} {v : Int} {bs : List Int} (h0 : 0 ≤ v) (h1 : v < N) (hb : bs = (List.replicate N 0).set v.toNat 1) : RInv N arcs v bs [v] := by
  subst hb
  have hl : (List.replicate N (0 : Int)).length = N := List.length_replicate
  have key : ∀ w, Mk N ((List.replicate N (0 : Int)).set v.toNat 1) w → w = v := fun w hw => (mk_set_inv hl h0 h1 hw).elim id (fun h => by have := h.2.2; rw [rdI_rep h.1 h.2.1] at this; omega)
  refine ⟨⟨by simp, fun w a b => ?_, fun w hw => by rw [key w hw]; exact .refl, mk_set_self hl h0 h1, fun x hx => by rw [List.mem_singleton] at hx; subst hx; exact mk_set_self hl h0 h1⟩, fun u hu hn => absurd (by rw [key u hu]; exact List.mem_singleton_self v) hn⟩
  rw [rdI_set h0 (by rw [hl]; exact h1) a, rdI_rep a b]; split
  · exact .inr rfl
  · exact .inl rfl
theorem last_take {ws : List Int} (h : 0 < ws.length) : ws = ws.take (ws.length - 1) ++ [rdI ws ((ws.length : Int) - 1)] := by
  have h1 := rdI_eq (xs := ws) (i := (ws.length : Int) - 1) (by omega) (by omega)
  have h2 := take_snoc h1
  rw [show ((ws.length : Int) - 1).toNat = ws.length - 1 by omega, show ws.length - 1 + 1 = ws.length by omega, List.take_length] at h2
  exact h2
theorem rin_start {N : Nat} {arcs : List (Int × Int)} {v t : Int} {bs ws ws' : List Int} (h : RInv N arcs v bs ws) (hp : 0 < ws.length) (ht : t = rdI ws ((ws.length : Int) - 1)) (hw : ws' = ws.take (ws.length - 1)) : RIn N arcs v t 0 bs ws' := by
  have e := last_take hp
  rw [← hw, ← ht] at e
  refine ⟨⟨h.1.len, h.1.bit, h.1.sound, h.1.first, fun x hx => h.1.work x (by rw [e]; exact List.mem_append_left _ hx)⟩, h.1.work t (by rw [e]; simp), fun u hu hn hut => h.2 u hu (by rw [e]; simp [hn, hut]), fun w hw => by simp at hw⟩
theorem rin_done {N : Nat} {arcs : List (Int × Int)} {v t : Int} {k : Nat} {bs ws : List Int} (h : RIn N arcs v t k bs ws) (hk : (nexts arcs t).length ≤ k) : RInv N arcs v bs ws := by
  refine ⟨h.1, fun u hu hn w hw => ?_⟩
  by_cases hut : u = t
  · subst hut; exact h.2.2.2 w (by rw [List.take_of_length_le hk]; exact hw)
  · exact h.2.2.1 u hu hn hut w hw
theorem rin_old {N : Nat} {arcs : List (Int × Int)} {v t w : Int} {k : Nat} {bs ws : List Int} (h : RIn N arcs v t k bs ws) (hw : (nexts arcs t)[k]? = some w) (hm : Mk N bs w) : RIn N arcs v t (k + 1) bs ws :=
  ⟨h.1, h.2.1, h.2.2.1, fun x hx => by rw [take_snoc hw] at hx; rcases List.mem_append.1 hx with h1 | h1; exact h.2.2.2 x h1; rw [List.mem_singleton] at h1; rw [h1]; exact hm⟩
theorem rin_new {N : Nat} {arcs : List (Int × Int)} {v t w : Int} {k : Nat} {bs ws bs' ws' : List Int} (h : RIn N arcs v t k bs ws) (hw : (nexts arcs t)[k]? = some w) (h0 : 0 ≤ w) (h1 : w < N) (hb : bs' = bs.set w.toNat 1) (hs : ws' = ws ++ [w]) : RIn N arcs v t (k + 1) bs' ws' := by
  subst hb; subst hs
  have hl := h.1.len
  have hR : Rch arcs v w := .step (h.1.sound t h.2.1) (mem_nexts.1 (List.mem_of_getElem? hw))
  refine ⟨⟨by rw [List.length_set]; exact hl, fun x a b => ?_, fun x hx => ?_, mk_set hl h0 h1 h.1.first, fun x hx => ?_⟩, mk_set hl h0 h1 h.2.1, fun u hu hn hut x hx => ?_, fun x hx => ?_⟩
  · rw [rdI_set h0 (by omega) a]; split
    · exact .inr rfl
    · exact h.1.bit x a b
  · rcases mk_set_inv hl h0 h1 hx with rfl | hx
    · exact hR
    · exact h.1.sound x hx
  · rcases List.mem_append.1 hx with h2 | h2
    · exact mk_set hl h0 h1 (h.1.work x h2)
    · rw [List.mem_singleton] at h2; rw [h2]; exact mk_set_self hl h0 h1
  · rcases mk_set_inv hl h0 h1 hu with rfl | hu
    · exact absurd (List.mem_append_right _ (List.mem_singleton_self _)) hn
    · exact mk_set hl h0 h1 (h.2.2.1 u hu (fun h3 => hn (List.mem_append_left _ h3)) hut x hx)
  · rw [take_snoc hw] at hx
    rcases List.mem_append.1 hx with h2 | h2
    · exact mk_set hl h0 h1 (h.2.2.2 x h2)
    · rw [List.mem_singleton] at h2; rw [h2]; exact mk_set_self hl h0 h1
theorem rinv_end {N : Nat} {arcs : List (Int × Int)} {v : Int} {bs : List Int} (h : RInv N arcs v bs []) (hF : Fine N arcs) (w : Int) : Mk N bs w ↔ Rch arcs v w := by
  refine ⟨h.1.sound w, fun hR => ?_⟩
  induction hR with
  | refl => exact h.1.first
  | step _ ha ih => exact h.2 _ ih (by simp) _ (mem_nexts.2 ha)
theorem rch_range {N : Nat} {arcs : List (Int × Int)} {v w : Int} (hF : Fine N arcs) (h0 : 0 ≤ v) (h1 : v < N) (h : Rch arcs v w) : 0 ≤ w ∧ w < N := by
  induction h with
  | refl => exact ⟨h0, h1⟩
  | step _ ha _ => have := hF _ ha; omega
open Classical in
noncomputable def reach (N : Nat) (arcs : List (Int × Int)) (v : Int) : List Int := ((List.range N).filter (fun (w : Nat) => decide (Rch arcs v (w : Int)))).map (fun (w : Nat) => (w : Int))
def mkd (q : Nat) (bs : List Int) : List Int := ((List.range q).filter (fun (w : Nat) => decide (0 < rdI bs (w : Int)))).map (fun (w : Nat) => (w : Int))
theorem mkd_step {q : Int} {bs : List Int} (h0 : 0 ≤ q) : mkd (q + 1).toNat bs = mkd q.toNat bs ++ if 0 < rdI bs q then [q] else [] := by
  unfold mkd
  rw [show (q + 1).toNat = q.toNat + 1 by omega, List.range_succ, List.filter_append, List.map_append]
  congr 1
  by_cases h : 0 < rdI bs q
  · rw [if_pos h]; simp [show ((q.toNat : Nat) : Int) = q by omega, h]
  · rw [if_neg h]; simp [show ((q.toNat : Nat) : Int) = q by omega, h]
theorem mkd_le (q : Nat) (bs : List Int) : (mkd q bs).length ≤ q := by
  unfold mkd; rw [List.length_map]; exact Nat.le_trans (List.length_filter_le _ _) (by simp)
theorem mkd_reach {N : Nat} {arcs : List (Int × Int)} {v : Int} {bs : List Int} (h : RInv N arcs v bs []) (hF : Fine N arcs) : mkd N bs = reach N arcs v := by
  unfold mkd reach
  congr 1
  apply List.filter_congr
  intro w hw
  have hw2 : w < N := by simpa using hw
  have hi := rinv_end h hF (w : Int)
  have hbit := h.1.bit (w : Int) (by omega) (by omega)
  rw [decide_eq_decide, ← hi]
  constructor
  · intro hp; exact ⟨by omega, by omega, by omega⟩
  · intro hm; have := hm.2.2; omega
theorem reach_le (N : Nat) (arcs : List (Int × Int)) (v : Int) : (reach N arcs v).length ≤ N := by
  unfold reach; rw [List.length_map]; exact Nat.le_trans (List.length_filter_le _ _) (by simp)
theorem mem_reach {N : Nat} {arcs : List (Int × Int)} {v w : Int} : w ∈ reach N arcs v ↔ 0 ≤ w ∧ w < N ∧ Rch arcs v w := by
  unfold reach
  simp only [List.mem_map, List.mem_filter, List.mem_range, decide_eq_true_eq]
  constructor
  · rintro ⟨a, ⟨h1, h2⟩, rfl⟩; exact ⟨by omega, by omega, h2⟩
  · rintro ⟨h0, h1, h2⟩; exact ⟨w.toNat, ⟨by omega, by rwa [show ((w.toNat : Nat) : Int) = w by omega]⟩, by omega⟩
attribute [irreducible] reach mkd zs
/-! the document's answer -/
theorem nexts_snoc (as_ : List (Int × Int)) (a : Int × Int) (v : Int) : nexts (as_ ++ [a]) v = nexts as_ v ++ if a.1 = v then [a.2] else [] := by
  have hk : keys false (as_ ++ [a]) = keys false as_ ++ [a.1] := by unfold keys; rw [List.map_append]; unfold key; simp
  unfold nexts
  rw [hk, idxs_snoc, List.map_append]
  congr 1
  · apply List.map_congr_left
    intro i hi
    obtain ⟨h0, h1, _⟩ := idxs_mem hi
    rw [keys_len] at h1
    have h2 := gx_eq (xs := as_ ++ [a]) h0 (by rw [List.length_append]; omega)
    rw [List.getElem?_append_left (by omega), gx_eq h0 h1] at h2
    rw [← Option.some.inj h2]
  · by_cases h : a.1 = v
    · rw [if_pos h, if_pos h]
      have h2 := gx_eq (xs := as_ ++ [a]) (i := (as_.length : Int)) (by omega) (by rw [List.length_append, List.length_singleton]; omega)
      rw [Int.toNat_natCast, List.getElem?_append_right (Nat.le_refl _), Nat.sub_self, List.getElem?_cons_zero] at h2
      rw [keys_len, List.map_singleton, ← Option.some.inj h2]
    · rw [if_neg h, if_neg h]; rfl
theorem out_step {arcs : List (Int × Int)} {i v : Int} (h0 : 0 ≤ i) (h1 : i < arcs.length) : idxs ((keys false arcs).take (i + 1).toNat) v = idxs ((keys false arcs).take i.toNat) v ++ if (gx arcs i).1 = v then [i] else [] := by
  rw [show (i + 1).toNat = i.toNat + 1 by omega, take_snoc (keys_get (b := false) h0 h1), idxs_snoc, List.length_take, keys_len, Nat.min_eq_left (by omega), show ((i.toNat : Nat) : Int) = i by omega]
  unfold key; rfl
theorem nx_step {arcs : List (Int × Int)} {i v : Int} (h0 : 0 ≤ i) (h1 : i < arcs.length) : nexts (arcs.take (i + 1).toNat) v = nexts (arcs.take i.toNat) v ++ if (gx arcs i).1 = v then [(gx arcs i).2] else [] := by
  rw [show (i + 1).toNat = i.toNat + 1 by omega, take_snoc (gx_eq h0 h1), nexts_snoc]
theorem sw_step {arcs : List (Int × Int)} {i : Int} (h0 : 0 ≤ i) (h1 : i < arcs.length) : (arcs.take (i + 1).toNat).map swap = (arcs.take i.toNat).map swap ++ [((gx arcs i).2, (gx arcs i).1)] := by
  rw [show (i + 1).toNat = i.toNat + 1 by omega, take_snoc (gx_eq h0 h1), List.map_append]; rfl
theorem id_step {arcs : List (Int × Int)} {i : Int} (h0 : 0 ≤ i) (h1 : i < arcs.length) : arcs.take (i + 1).toNat = arcs.take i.toNat ++ [((gx arcs i).1, (gx arcs i).2)] := by
  rw [show (i + 1).toNat = i.toNat + 1 by omega, take_snoc (gx_eq h0 h1)]
def ons (q : Nat) (bs : List Int) : List Int := ((List.range q).filter (fun (w : Nat) => decide (rdI bs (w : Int) = 1))).map (fun (w : Nat) => (w : Int))
theorem ons_step {q : Int} {bs : List Int} (h0 : 0 ≤ q) : ons (q + 1).toNat bs = ons q.toNat bs ++ if rdI bs q = 1 then [q] else [] := by
  unfold ons
  rw [show (q + 1).toNat = q.toNat + 1 by omega, List.range_succ, List.filter_append, List.map_append]
  congr 1
  by_cases h : rdI bs q = 1
  · rw [if_pos h]; simp [show ((q.toNat : Nat) : Int) = q by omega, h]
  · rw [if_neg h]; simp [show ((q.toNat : Nat) : Int) = q by omega, h]
theorem ons_le (q : Nat) (bs : List Int) : (ons q bs).length ≤ q := by
  unfold ons; rw [List.length_map]; exact Nat.le_trans (List.length_filter_le _ _) (by simp)
theorem ons_reach {N : Nat} {arcs : List (Int × Int)} {v : Int} {bs : List Int} (h : RInv N arcs v bs []) (hF : Fine N arcs) : ons N bs = reach N arcs v := by
  unfold ons reach
  congr 1
  apply List.filter_congr
  intro w hw
  have hw2 : w < N := by simpa using hw
  have hi := rinv_end h hF (w : Int)
  rw [decide_eq_decide, ← hi]
  exact ⟨fun hp => ⟨by omega, by omega, hp⟩, fun hm => hm.2.2⟩
/-- The rounds of the document's own. -/
def RO (N : Nat) (arcs : List (Int × Int)) (v : Int) (bs : List Int) : Prop := RB N arcs v bs []
def RX (N : Nat) (arcs : List (Int × Int)) (v : Int) (bs0 bs : List Int) (m : Bool) (k : Nat) : Prop := RB N arcs v bs [] ∧ zs bs ≤ zs bs0 ∧ (m = true → zs bs < zs bs0) ∧ (m = false → ∀ a ∈ arcs.take k, Mk N bs a.1 → Mk N bs a.2)
theorem rx_skip {N : Nat} {arcs : List (Int × Int)} {v i : Int} {bs0 bs : List Int} {m : Bool} (h : RX N arcs v bs0 bs m i.toNat) (hF : Fine N arcs) (h0 : 0 ≤ i) (h1 : i < arcs.length) (hn : rdI bs (gx arcs i).1 = 1 → rdI bs (gx arcs i).2 ≠ 0) : RX N arcs v bs0 bs m (i + 1).toNat := by
  refine ⟨h.1, h.2.1, h.2.2.1, fun hm a ha => ?_⟩
  rw [show (i + 1).toNat = i.toNat + 1 by omega, take_snoc (gx_eq h0 h1)] at ha
  rcases List.mem_append.1 ha with h2 | h2
  · exact h.2.2.2 hm a h2
  · rw [List.mem_singleton] at h2; subst h2
    intro h3
    have h4 := hF _ (List.mem_of_getElem? (gx_eq h0 h1))
    have h5 := h.1.bit _ h4.2.2.1 h4.2.2.2
    have := hn h3.2.2
    exact ⟨h4.2.2.1, h4.2.2.2, by omega⟩
theorem rx_set {N : Nat} {arcs : List (Int × Int)} {v i : Int} {bs0 bs bs' : List Int} {m : Bool} (h : RX N arcs v bs0 bs m i.toNat) (hF : Fine N arcs) (h0 : 0 ≤ i) (h1 : i < arcs.length) (h2 : rdI bs (gx arcs i).1 = 1) (h3 : rdI bs (gx arcs i).2 = 0) (hb : bs' = bs.set (gx arcs i).2.toNat 1) : RX N arcs v bs0 bs' true (i + 1).toNat := by
  subst hb
  have hm := List.mem_of_getElem? (gx_eq h0 h1)
  have h4 := hF _ hm
  have hl := h.1.len
  have hz := zs_set (bs := bs) (w := (gx arcs i).2) h4.2.2.1 (by omega) h3
  have hR : Rch arcs v (gx arcs i).2 := .step (h.1.sound _ ⟨h4.1, h4.2.1, h2⟩) hm
  refine ⟨⟨by rw [List.length_set]; exact hl, fun x a b => ?_, fun x hx => ?_, mk_set hl h4.2.2.1 h4.2.2.2 h.1.first, fun x hx => by simp at hx⟩, by have := h.2.1; omega, fun _ => by have := h.2.1; omega, fun hf => by cases hf⟩
  · rw [rdI_set h4.2.2.1 (by omega) a]; split
    · exact .inr rfl
    · exact h.1.bit x a b
  · rcases mk_set_inv hl h4.2.2.1 h4.2.2.2 hx with rfl | hx
    · exact hR
    · exact h.1.sound x hx
theorem rx_end {N : Nat} {arcs : List (Int × Int)} {v : Int} {bs0 bs : List Int} {k : Nat} (h : RX N arcs v bs0 bs false k) (hk : arcs.length ≤ k) : RInv N arcs v bs [] :=
  ⟨h.1, fun u hu _ w hw => by
    have := h.2.2.2 rfl (u, w) (by rw [List.take_of_length_le hk]; exact mem_nexts.1 hw)
    exact this hu⟩
theorem rx_lt {N : Nat} {arcs : List (Int × Int)} {v : Int} {bs0 bs : List Int} {m m2 : Bool} {k : Nat} (h : RX N arcs v bs0 bs m2 k) (hm : m = true) : (if m2 = true then zs bs + 1 else 0) < (if m = true then zs bs0 + 1 else 0) := by
  rw [if_pos hm]
  cases m2 with
  | true => have := h.2.2.1 rfl; rw [if_pos rfl]; omega
  | false => rw [if_neg (by decide)]; omega
theorem ro_start {N : Nat} {arcs : List (Int × Int)} {v : Int} {bs : List Int} (h0 : 0 ≤ v) (h1 : v < N) (hb : bs = (List.replicate N 0).set v.toNat 1) : RO N arcs v bs :=
  let h := (rinv_start (arcs := arcs) h0 h1 hb).1; ⟨h.len, h.bit, h.sound, h.first, fun x hx => by simp at hx⟩
attribute [irreducible] ons
theorem idxs_out {N : Nat} {arcs : List (Int × Int)} {b : Bool} {v : Int} (hF : Fine N arcs) (h : ¬ (0 ≤ v ∧ v < N)) : idxs (keys b arcs) v = [] := by
  apply List.eq_nil_of_length_eq_zero
  rw [idxs_length]
  exact cnt_none (fun k hk => by have := keys_fine hF k hk; omega)
theorem nexts_out {N : Nat} {arcs : List (Int × Int)} {v : Int} (hF : Fine N arcs) (h : ¬ (0 ≤ v ∧ v < N)) : nexts arcs v = [] := by
  apply List.eq_nil_of_length_eq_zero
  rw [nexts_len, idxs_out hF h]; rfl

end Go.Proofs.Ythfpdpjccnnlhaa.GBfsLayers
