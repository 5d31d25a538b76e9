/- Pure part of GRelateChains: what flows from a first type to a second one and on to a third one leads where what flows from the first to the third one leads -/
import Derived.Test.YtnabbhcagonlkaaGRelateChainsxopen
import Derived.Laws.BitsLemmas
namespace Go.Proofs.Ytnabbhcagonlkaa.Pure
open Go.RowKit Go.Proofs.Ytnabbhcagonlkaa.GRelateChains Go.Proofs.YtnabbhcagonlkaaW.PrintWords Go.Proofs.YtnabbhcagonlkaaW.PrintLast
set_option linter.unusedSimpArgs false
set_option linter.unusedVariables false

theorem w64 (n : Int) (h0 : -9223372036854775808 ≤ n) (h1 : n < 9223372036854775808) : wrap64 n = n := by unfold wrap64; omega
/-! what types need: both sides -/
def dc (n : S35) : S108 := ⟨n.f0, n.f1, n.f2, n.f3, n.f4⟩
theorem rdS_eq {l : List S107} {i : Nat} (h : i < l.length) : rd_T107 l (i : Int) = l[i] := by
  unfold rd_T107; simp [List.getD_eq_getElem?_getD, List.getElem?_eq_getElem h]
theorem rdN_eq {l : List S35} {i : Nat} (h : i < l.length) : rd_T35 l (i : Int) = l[i] := by
  unfold rd_T35; simp [List.getD_eq_getElem?_getD, List.getElem?_eq_getElem h]
theorem rdM_eq {l : List S108} {i : Nat} (h : i < l.length) : rd_T108 l (i : Int) = l[i] := by
  unfold rd_T108; simp [List.getD_eq_getElem?_getD, List.getElem?_eq_getElem h]
theorem doc_loop (l : List S35) (hl : l.length ≤ 100000) : ∀ (d i k : Nat) (acc : List S108), i + d = l.length → d + 1 ≤ k → acc.length = i → easementlaw16_Doc.l0 k l acc (i : Int) = some (acc ++ (l.drop i).map dc)
  | 0, i, k, acc, hd, hk, ha => by
    obtain ⟨k, rfl⟩ : ∃ m, k = m + 1 := ⟨k - 1, by omega⟩
    simp only [easementlaw16_Doc.l0]
    rw [if_neg (by omega), List.drop_eq_nil_of_le (by omega)]
    simp
  | d + 1, i, k, acc, hd, hk, ha => by
    obtain ⟨k, rfl⟩ : ∃ m, k = m + 1 := ⟨k - 1, by omega⟩
    simp only [easementlaw16_Doc.l0]
    have hi : i < l.length := by omega
    have e1 : (i : Int) + 1 = ((i + 1 : Nat) : Int) := by omega
    rw [if_pos (by omega), if_pos (by omega), if_pos (by omega), rdN_eq hi, w64 _ (by omega) (by omega), e1, doc_loop l hl d (i + 1) k _ (by omega) (by omega) (by rw [List.length_append]; simp [ha]), List.drop_eq_getElem_cons hi, List.map_cons, List.append_assoc]
    rfl
theorem doc_eq (l : List S35) (hl : l.length ≤ 100000) (k : Nat) (hk : l.length + 1 ≤ k) : easementlaw16_Doc.f k l = some (l.map dc) := by
  unfold easementlaw16_Doc.f
  exact doc_loop l hl l.length 0 k [] (by omega) (by omega) rfl
theorem nsame_loop (l : List S108) (hl : l.length ≤ 100000) : ∀ (d i k : Nat), i + d = l.length → d + 1 ≤ k → easementref16_Same.l0 k l l (i : Int) = some true
  | 0, i, k, hd, hk => by
    obtain ⟨k, rfl⟩ : ∃ m, k = m + 1 := ⟨k - 1, by omega⟩
    simp only [easementref16_Same.l0]
    rw [if_neg (by omega)]
  | d + 1, i, k, hd, hk => by
    obtain ⟨k, rfl⟩ : ∃ m, k = m + 1 := ⟨k - 1, by omega⟩
    simp only [easementref16_Same.l0]
    have e1 : (i : Int) + 1 = ((i + 1 : Nat) : Int) := by omega
    rw [if_pos (by omega), if_pos (by omega), if_pos (by omega), if_neg (by simp), w64 _ (by omega) (by omega), e1]
    exact nsame_loop l hl d (i + 1) k (by omega) (by omega)
theorem nsame_self (l : List S108) (hl : l.length ≤ 100000) (k : Nat) (hk : l.length + 1 ≤ k) : easementref16_Same.f k l l = some true := by
  unfold easementref16_Same.f
  rw [if_pos rfl]
  exact nsame_loop l hl l.length 0 k (by omega) (by omega)
theorem slx_len (kind from_ : Int) : ∀ (a b : List S107) (i : Int), (slx kind from_ a b i).length ≤ 2 * a.length
  | [], _, _ => by simp [slx]
  | _ :: _, [], _ => by simp [slx]
  | s :: a, t :: b, i => by
    have := slx_len kind from_ a b (i + 1)
    simp only [slx, List.length_cons, List.length_append]
    split <;> simp <;> omega
def flw (a b : List S107) (kind from_ : Int) : List S35 × Int := if shp a b = true then (slx kind from_ a b 0, 0) else ([], 8)
theorem flow_eq (a b : List S107) (kind from_ : Int) (hl : a.length ≤ 100000) : relate_Flow.f a b kind from_ = some (flw a b kind from_) := by
  unfold relate_Flow.f flw
  split
  · rw [if_pos (by omega)]
  · rfl
theorem relawake_eq (k : Nat) (hk : 20 ≤ k) : easementlaw16_awake.f k = some true := by
  unfold easementlaw16_awake.f
  rw [flow_eq _ _ _ _ (by simp)]
  have e : flw [⟨1, false⟩, ⟨2, true⟩] [⟨3, false⟩, ⟨4, true⟩] 1 0 = ([⟨1, 3, 1, 0, false⟩, ⟨2, 4, 1, 1, false⟩, ⟨4, 2, 1, 1, true⟩], 0) := by
    have hs : shp [⟨1, false⟩, ⟨2, true⟩] [⟨3, false⟩, ⟨4, true⟩] = true := rfl
    unfold flw
    rw [if_pos hs]
    simp only [slx]
    rw [w64 (0 + 0) (by omega) (by omega), w64 (0 + (0 + 1)) (by omega) (by omega)]
    rfl
  rw [e]
  simp only [Option.bind_some]
  rw [if_pos trivial, doc_eq _ (by simp) k (by simp; omega)]
  simp only [Option.bind_some]
  have s := nsame_self [⟨1, 3, 1, 0, false⟩, ⟨2, 4, 1, 1, false⟩, ⟨4, 2, 1, 1, true⟩] (by simp) k (by simp; omega)
  show (easementref16_Same.f k _ _).bind _ = _
  rw [show List.map dc [⟨1, 3, 1, 0, false⟩, ⟨2, 4, 1, 1, false⟩, ⟨4, 2, 1, 1, true⟩] = [⟨1, 3, 1, 0, false⟩, ⟨2, 4, 1, 1, false⟩, ⟨4, 2, 1, 1, true⟩] from rfl, s]
  rfl
/-! what is reached -/
theorem rdI_eq {l : List Int} {i : Nat} (h : i < l.length) : rd l (i : Int) = l[i] := by
  unfold rd; simp [List.getD_eq_getElem?_getD, List.getElem?_eq_getElem h]
section
variable (E : List S108) (b : Int)
/-- With enough rounds the answer is true. -/
def Yes (inn : List Int) (more : Bool) : Prop := ∃ K, ∀ k, K ≤ k → easementref16_Leads.l0 k E b inn more = some true
def Mu (inn : List Int) : Nat := (E.filter (fun e => !decide (e.f1 ∈ inn))).length
theorem l2_eq (hE : E.length ≤ 1000) (inn : List Int) (hin : inn.length ≤ 1000000) (more : Bool) (i : Nat) (hi : i < E.length) (k : Nat) : ∀ (d j : Nat) (f t : Bool), j + d = inn.length →
    easementref16_Leads.l2 (k + d + 1) E b inn more (i : Int) f t (j : Int) = (if (f || decide (E[i].f0 ∈ inn.drop j)) = true then (if (t || decide (E[i].f1 ∈ inn.drop j)) = true then easementref16_Leads.l1 k E b inn more ((i + 1 : Nat) : Int) else easementref16_Leads.l1 k E b (inn ++ [E[i].f1]) true ((i + 1 : Nat) : Int)) else easementref16_Leads.l1 k E b inn more ((i + 1 : Nat) : Int))
  | 0, j, f, t, hd => by
    simp only [easementref16_Leads.l2, Nat.add_zero]
    have e1 : (i : Int) + 1 = ((i + 1 : Nat) : Int) := by omega
    have hjn : ¬ (j : Int) < (inn.length : Int) := by omega
    have hr : (0 : Int) ≤ (i : Int) := by omega
    have hs : (i : Int) < (E.length : Int) := by omega
    have hz : inn.length < 17592186044416 := by omega
    rw [if_neg hjn, List.drop_eq_nil_of_le (show inn.length ≤ j by omega), rdM_eq hi, w64 ((i : Int) + 1) (by omega) (by omega), e1, if_pos hr, if_pos hs, if_pos hz]
    cases f <;> cases t <;> simp
  | d + 1, j, f, t, hd => by
    have hj : j < inn.length := by omega
    have e1 : (j : Int) + 1 = ((j + 1 : Nat) : Int) := by omega
    have ih := fun f t => l2_eq hE inn hin more i hi k d (j + 1) f t (by omega)
    rw [show k + (d + 1) + 1 = (k + d + 1) + 1 from by omega]
    generalize k + d + 1 = K at ih
    simp only [easementref16_Leads.l2]
    rw [if_pos (by omega), w64 ((j : Int) + 1) (by omega) (by omega), e1, ih, ih, ih, ih, rdM_eq hi, rdI_eq hj, List.drop_eq_getElem_cons hj]
    have hq : (0 : Int) ≤ (j : Int) := by omega
    have hr : (0 : Int) ≤ (i : Int) := by omega
    have hs : (i : Int) < (E.length : Int) := by omega
    have m1 : ∀ x : Int, decide (x ∈ inn[j] :: inn.drop (j + 1)) = ((inn[j] == x) || decide (x ∈ inn.drop (j + 1))) := by
      intro x
      rw [Bool.eq_iff_iff]
      simp only [List.mem_cons, decide_eq_true_eq, Bool.or_eq_true, beq_iff_eq]
      constructor
      · rintro (h | h)
        · exact .inl h.symm
        · exact .inr h
      · rintro (h | h)
        · exact .inl h.symm
        · exact .inr h
    rw [m1, m1]
    cases f <;> cases t <;> simp [hq, hr, hs]
theorem filter_lt {α : Type} (p q : α → Bool) (h : ∀ x, q x = true → p x = true) : ∀ (l : List α) (x : α), x ∈ l → p x = true → q x = false → (l.filter q).length < (l.filter p).length
  | [], x, hx, _, _ => by simp at hx
  | y :: l, x, hx, hp, hq => by
    have le : ∀ l : List α, (l.filter q).length ≤ (l.filter p).length := by
      intro l
      induction l with
      | nil => simp
      | cons z l ih =>
        simp only [List.filter_cons]
        by_cases c : q z = true
        · rw [if_pos c, if_pos (h z c)]; simp; exact ih
        · rw [if_neg c]; split
          · simp; omega
          · exact ih
    rcases List.mem_cons.1 hx with rfl | hx
    · simp only [List.filter_cons]
      rw [if_pos hp, if_neg (by rw [hq]; decide)]
      have := le l
      simp; omega
    · have ih := filter_lt p q h l x hx hp hq
      simp only [List.filter_cons]
      by_cases c : q y = true
      · rw [if_pos c, if_pos (h y c)]; simp; exact ih
      · rw [if_neg c]; split
        · simp; omega
        · exact ih
theorem mu_lt (inn : List Int) (i : Nat) (hi : i < E.length) (h : E[i].f1 ∉ inn) : Mu E (inn ++ [E[i].f1]) < Mu E inn := by
  unfold Mu
  refine filter_lt _ _ (fun x hx => ?_) E E[i] (List.getElem_mem hi) (by simpa using h) (by simp)
  simp only [List.mem_append, Bool.not_eq_true', decide_eq_false_iff_not] at hx ⊢
  exact fun hm => hx (.inl hm)
theorem pass (hE : E.length ≤ 1000) (B : Nat) (hB : B ≤ 1000000) : ∀ (d i : Nat) (inn : List Int) (more : Bool), i + d = E.length → inn.length + Mu E inn ≤ B →
    ((∀ j (hj : j < E.length), i ≤ j → E[j].f0 ∈ inn → E[j].f1 ∈ inn) → Yes E b inn more) →
    (∀ inn', (∀ x ∈ inn, x ∈ inn') → Mu E inn' < Mu E inn → inn'.length + Mu E inn' ≤ B → Yes E b inn' true) →
    ∃ K, ∀ k, K ≤ k → easementref16_Leads.l1 k E b inn more (i : Int) = some true
  | 0, i, inn, more, hd, hb, h1, h2 => by
    obtain ⟨K, hK⟩ := h1 (fun j hj hij => by omega)
    refine ⟨K + 1, fun k hk => ?_⟩
    obtain ⟨k, rfl⟩ : ∃ m, k = m + 1 := ⟨k - 1, by omega⟩
    simp only [easementref16_Leads.l1]
    rw [if_neg (by omega)]
    exact hK k (by omega)
  | d + 1, i, inn, more, hd, hb, h1, h2 => by
    have hi : i < E.length := by omega
    have go : ∀ (inn' : List Int) (more' : Bool), (∀ k, easementref16_Leads.l2 (k + inn.length + 1) E b inn more (i : Int) false false 0 = easementref16_Leads.l1 k E b inn' more' ((i + 1 : Nat) : Int)) → (∃ K, ∀ k, K ≤ k → easementref16_Leads.l1 k E b inn' more' ((i + 1 : Nat) : Int) = some true) → ∃ K, ∀ k, K ≤ k → easementref16_Leads.l1 k E b inn more (i : Int) = some true := by
      rintro inn' more' he ⟨K, hK⟩
      refine ⟨K + inn.length + 2, fun k hk => ?_⟩
      obtain ⟨k, rfl⟩ : ∃ m, k = m + inn.length + 2 := ⟨k - inn.length - 2, by omega⟩
      rw [show k + inn.length + 2 = (k + inn.length + 1) + 1 from rfl]
      simp only [easementref16_Leads.l1]
      rw [if_pos (by omega), he]
      exact hK k (by omega)
    have e2 := fun k => l2_eq E b hE inn (by omega) more i hi k inn.length 0 false false (by omega)
    simp only [List.drop_zero, Bool.false_or, decide_eq_true_eq] at e2
    rw [show ((0 : Nat) : Int) = 0 from rfl] at e2
    by_cases c : E[i].f0 ∈ inn ∧ E[i].f1 ∉ inn
    · refine go (inn ++ [E[i].f1]) true (fun k => by rw [e2, if_pos c.1, if_neg c.2]) ?_
      have hm := mu_lt E inn i hi c.2
      have hl : (inn ++ [E[i].f1]).length = inn.length + 1 := by simp
      refine pass hE B hB d (i + 1) _ true (by omega) (by omega) (fun _ => ?_) (fun inn' hs hlt hb' => ?_)
      · exact h2 _ (fun x hx => List.mem_append.2 (.inl hx)) hm (by omega)
      · exact h2 inn' (fun x hx => hs x (List.mem_append.2 (.inl hx))) (by omega) hb'
    · have hc : E[i].f0 ∈ inn → E[i].f1 ∈ inn := fun h => Classical.byContradiction fun hn => c ⟨h, hn⟩
      refine go inn more (fun k => ?_) ?_
      · rw [e2]
        by_cases c1 : E[i].f0 ∈ inn
        · rw [if_pos c1, if_pos (hc c1)]
        · rw [if_neg c1]
      · refine pass hE B hB d (i + 1) inn more (by omega) hb (fun hj => h1 (fun j hjl hij => ?_)) h2
        by_cases e : j = i
        · subst e; exact hc
        · exact hj j hjl (by omega)
theorem l3_yes (inn : List Int) (hin : inn.length ≤ 1000000) : ∀ (d j : Nat), j + d = inn.length → b ∈ inn.drop j → ∀ k, d + 1 ≤ k → easementref16_Leads.l3 k b inn (j : Int) = some true
  | 0, j, hd, hb, k, hk => by rw [List.drop_eq_nil_of_le (by omega)] at hb; simp at hb
  | d + 1, j, hd, hb, k, hk => by
    obtain ⟨k, rfl⟩ : ∃ m, k = m + 1 := ⟨k - 1, by omega⟩
    have hj : j < inn.length := by omega
    have e1 : (j : Int) + 1 = ((j + 1 : Nat) : Int) := by omega
    simp only [easementref16_Leads.l3]
    rw [if_pos (by omega), if_pos (by omega), rdI_eq hj, w64 ((j : Int) + 1) (by omega) (by omega), e1]
    by_cases c : inn[j] = b
    · rw [if_pos c]
    · rw [if_neg c]
      rw [List.drop_eq_getElem_cons hj] at hb
      rcases List.mem_cons.1 hb with rfl | hb
      · exact absurd rfl c
      · exact l3_yes inn hin d (j + 1) (by omega) hb k (by omega)
theorem reach (hE : E.length ≤ 1000) (B : Nat) (hB : B ≤ 1000000) : ∀ (n : Nat) (inn : List Int), Mu E inn ≤ n → inn.length + Mu E inn ≤ B → (∀ S : Int → Prop, (∀ x ∈ inn, S x) → (∀ e ∈ E, S e.f0 → S e.f1) → S b) → Yes E b inn true := by
  intro n
  induction n with
  | zero => intro inn hn hb hq; exact step inn hb hq (fun inn' _ hlt _ => by omega)
  | succ n ih => intro inn hn hb hq; exact step inn hb hq (fun inn' hs hlt hb' => ih inn' (by omega) hb' (fun S h1 h2 => hq S (fun x hx => h1 x (hs x hx)) h2))
where
  step (inn : List Int) (hb : inn.length + Mu E inn ≤ B) (hq : ∀ S : Int → Prop, (∀ x ∈ inn, S x) → (∀ e ∈ E, S e.f0 → S e.f1) → S b) (h2 : ∀ inn', (∀ x ∈ inn, x ∈ inn') → Mu E inn' < Mu E inn → inn'.length + Mu E inn' ≤ B → Yes E b inn' true) : Yes E b inn true := by
    obtain ⟨K, hK⟩ := pass E b hE B hB E.length 0 inn false (by omega) hb (fun hc => by
      refine ⟨inn.length + 2, fun k hk => ?_⟩
      obtain ⟨k, rfl⟩ : ∃ m, k = m + 1 := ⟨k - 1, by omega⟩
      simp only [easementref16_Leads.l0]
      rw [if_neg (by decide)]
      have hm : b ∈ inn := hq (· ∈ inn) (fun _ h => h) (fun e he hs => by
        obtain ⟨j, hj, rfl⟩ := List.getElem_of_mem he
        exact hc j hj (by omega) hs)
      exact l3_yes b inn (by omega) inn.length 0 (by omega) hm k (by omega)) h2
    refine ⟨K + 1, fun k hk => ?_⟩
    obtain ⟨k, rfl⟩ : ∃ m, k = m + 1 := ⟨k - 1, by omega⟩
    simp only [easementref16_Leads.l0]
    rw [if_pos trivial]
    exact hK k (by omega)
end
theorem leads_yes (E : List S108) (hE : E.length ≤ 1000) (a m b : Int) (h1 : ∃ e ∈ E, e.f0 = a ∧ e.f1 = m) (h2 : ∃ e ∈ E, e.f0 = m ∧ e.f1 = b) : ∃ K, ∀ k, K ≤ k → easementref16_Leads.f k E a b = some true := by
  have hm : Mu E [a] ≤ E.length := List.length_filter_le _ _
  refine reach E b hE 2000 (by omega) (Mu E [a]) [a] (Nat.le_refl _) (by simp; omega) (fun S hs hc => ?_)
  obtain ⟨e1, he1, r1, r2⟩ := h1
  obtain ⟨e2, he2, r3, r4⟩ := h2
  have s1 := hc e1 he1 (by rw [r1]; exact hs a (by simp))
  rw [r2] at s1
  have s2 := hc e2 he2 (by rw [r3]; exact s1)
  rwa [r4] at s2
/-- What flows from the first to the third one goes over the second one. -/
theorem chain (kind from_ : Int) : ∀ (a b c : List S107) (i : Int), a.map (fun x => x.f1) = b.map (fun x => x.f1) → b.map (fun x => x.f1) = c.map (fun x => x.f1) → ∀ n ∈ slx kind from_ a c i,
    ∃ m, (∃ e, (e ∈ slx kind from_ a b i ∨ e ∈ slx kind from_ b c i) ∧ e.f0 = n.f0 ∧ e.f1 = m) ∧ (∃ e, (e ∈ slx kind from_ a b i ∨ e ∈ slx kind from_ b c i) ∧ e.f0 = m ∧ e.f1 = n.f1)
  | [], _, _, i, _, _, n, hn => by simp [slx] at hn
  | s :: a, [], _, i, h, _, n, hn => by simp at h
  | s :: a, t :: b, [], i, _, h, n, hn => by simp at h
  | s :: a, t :: b, u :: c, i, h1, h2, n, hn => by
    simp only [List.map_cons, List.cons.injEq] at h1 h2
    have A1 : (⟨s.f0, t.f0, kind, wrap64 (from_ + i), false⟩ : S35) ∈ slx kind from_ (s :: a) (t :: b) i := by simp [slx]
    have B1 : (⟨t.f0, u.f0, kind, wrap64 (from_ + i), false⟩ : S35) ∈ slx kind from_ (t :: b) (u :: c) i := by simp [slx]
    simp only [slx, List.mem_cons, List.mem_append] at hn
    rcases hn with rfl | hn | hn
    · exact ⟨t.f0, ⟨_, .inl A1, rfl, rfl⟩, ⟨_, .inr B1, rfl, rfl⟩⟩
    · by_cases cu : u.f1 = true
      · rw [if_pos cu, List.mem_singleton] at hn
        subst hn
        have ct : t.f1 = true := by rw [h2.1]; exact cu
        have A2 : (⟨t.f0, s.f0, kind, wrap64 (from_ + i), true⟩ : S35) ∈ slx kind from_ (s :: a) (t :: b) i := by simp [slx, ct]
        have B2 : (⟨u.f0, t.f0, kind, wrap64 (from_ + i), true⟩ : S35) ∈ slx kind from_ (t :: b) (u :: c) i := by simp [slx, cu]
        exact ⟨t.f0, ⟨_, .inr B2, rfl, rfl⟩, ⟨_, .inl A2, rfl, rfl⟩⟩
      · rw [if_neg cu] at hn
        simp at hn
    · obtain ⟨m, ⟨e1, q1, q2, q3⟩, ⟨e2, q4, q5, q6⟩⟩ := chain kind from_ a b c (i + 1) h1.2 h2.2 n hn
      have up1 : ∀ e, e ∈ slx kind from_ a b (i + 1) → e ∈ slx kind from_ (s :: a) (t :: b) i := fun e he => by simp only [slx, List.mem_cons, List.mem_append]; exact .inr (.inr he)
      have up2 : ∀ e, e ∈ slx kind from_ b c (i + 1) → e ∈ slx kind from_ (t :: b) (u :: c) i := fun e he => by simp only [slx, List.mem_cons, List.mem_append]; exact .inr (.inr he)
      exact ⟨m, ⟨e1, q1.imp (up1 _) (up2 _), q2, q3⟩, ⟨e2, q4.imp (up1 _) (up2 _), q5, q6⟩⟩
theorem chains_loop (E : List S108) (n : List S35) (hn : n.length ≤ 1000) (h : ∀ x ∈ n, ∃ K, ∀ k, K ≤ k → easementref16_Leads.f k E x.f0 x.f1 = some true) : ∀ (d i : Nat), i + d = n.length → ∃ K, ∀ k, K ≤ k → easementlaw16_RelateChains.l0 k n 0 E (i : Int) = some true
  | 0, i, hd => by
    refine ⟨30, fun k hk => ?_⟩
    obtain ⟨k, rfl⟩ : ∃ m, k = m + 1 := ⟨k - 1, by omega⟩
    simp only [easementlaw16_RelateChains.l0]
    rw [if_neg (by omega), if_pos trivial, relawake_eq k (by omega)]
    rfl
  | d + 1, i, hd => by
    have hi : i < n.length := by omega
    have e1 : (i : Int) + 1 = ((i + 1 : Nat) : Int) := by omega
    obtain ⟨K1, h1⟩ := chains_loop E n hn h d (i + 1) (by omega)
    obtain ⟨K2, h2⟩ := h n[i] (List.getElem_mem hi)
    refine ⟨K1 + K2 + 1, fun k hk => ?_⟩
    obtain ⟨k, rfl⟩ : ∃ m, k = m + 1 := ⟨k - 1, by omega⟩
    simp only [easementlaw16_RelateChains.l0]
    rw [if_pos (by omega), if_pos (by omega), rdN_eq hi, h2 k (by omega), w64 ((i : Int) + 1) (by omega) (by omega), e1]
    simp only [Option.bind_some]
    rw [if_pos trivial]
    exact h1 k (by omega)
theorem flw_or (a b : List S107) (kind from_ : Int) : (flw a b kind from_).2 = 0 ∨ (flw a b kind from_).1 = [] := by
  unfold flw
  split
  · exact .inl rfl
  · exact .inr rfl
theorem RelateChains : easementlaw16_RelateChains.Pure := by
  intro a b c _ _ _
  have aw : ∀ k, easementlaw16_RelateChains.j0 (k + 30) true a b c = some true := by
    intro k
    rw [show k + 30 = (k + 29) + 1 from rfl]
    simp only [easementlaw16_RelateChains.j0]
    rw [if_pos trivial, relawake_eq (k + 29) (by omega)]
    rfl
  unfold easementlaw16_RelateChains.f easementref15_Few.f
  simp only [Option.bind_some]
  by_cases h1 : (a.length : Int) ≤ 8
  rotate_left
  · refine ⟨30, ?_⟩
    rw [if_neg (by simpa using h1)]
    exact aw 0
  by_cases h2 : (b.length : Int) ≤ 8
  rotate_left
  · refine ⟨30, ?_⟩
    rw [if_pos (by simpa using h1), if_neg (by simpa using h2)]
    exact aw 0
  by_cases h3 : (c.length : Int) ≤ 8
  rotate_left
  · refine ⟨30, ?_⟩
    rw [if_pos (by simpa using h1), if_pos (by simpa using h2), decide_eq_false h3]
    exact aw 0
  have l1 := slx_len 1 0 a b 0
  have l2 := slx_len 1 0 b c 0
  have l3 := slx_len 1 0 a c 0
  have main : ∃ k, easementlaw16_RelateChains.j0 k false a b c = some true := by
    by_cases s1 : shp a b = true
    · by_cases s2 : shp b c = true
      · have s3 : shp a c = true := by
          unfold shp at *
          have q1 := of_decide_eq_true s1
          have q2 := of_decide_eq_true s2
          exact decide_eq_true (q1.trans q2)
        have q1 : a.map (fun x => x.f1) = b.map (fun x => x.f1) := by unfold shp at s1; exact of_decide_eq_true s1
        have q2 : b.map (fun x => x.f1) = c.map (fun x => x.f1) := by unfold shp at s2; exact of_decide_eq_true s2
        have f1 : flw a b 1 0 = (slx 1 0 a b 0, 0) := by unfold flw; rw [if_pos s1]
        have f2 : flw b c 1 0 = (slx 1 0 b c 0, 0) := by unfold flw; rw [if_pos s2]
        have f3 : flw a c 1 0 = (slx 1 0 a c 0, 0) := by unfold flw; rw [if_pos s3]
        obtain ⟨K, hK⟩ := chains_loop ((slx 1 0 a b 0).map dc ++ (slx 1 0 b c 0).map dc) (slx 1 0 a c 0) (by omega) (fun n hn => by
          obtain ⟨m, ⟨e1, p1, p2, p3⟩, ⟨e2, p4, p5, p6⟩⟩ := chain 1 0 a b c 0 q1 q2 n hn
          have mem : ∀ e, (e ∈ slx 1 0 a b 0 ∨ e ∈ slx 1 0 b c 0) → dc e ∈ (slx 1 0 a b 0).map dc ++ (slx 1 0 b c 0).map dc := fun e he => List.mem_append.2 (he.imp (List.mem_map_of_mem) (List.mem_map_of_mem))
          exact leads_yes _ (by rw [List.length_append, List.length_map, List.length_map]; omega) n.f0 m n.f1 ⟨dc e1, mem e1 p1, p2, p3⟩ ⟨dc e2, mem e2 p4, p5, p6⟩) (slx 1 0 a c 0).length 0 (by omega)
        refine ⟨K + 102, ?_⟩
        simp only [easementlaw16_RelateChains.j0, easementlaw16_RelateChains.j1]
        rw [if_neg (by decide), flow_eq a b _ _ (by omega), flow_eq b c _ _ (by omega), flow_eq a c _ _ (by omega), f1, f2, f3]
        simp only [Option.bind_some]
        rw [if_pos trivial, if_neg (by decide), doc_eq _ (by omega) _ (by omega), doc_eq _ (by omega) _ (by omega)]
        simp only [Option.bind_some]
        rw [if_pos (by rw [List.length_map, List.length_map]; omega)]
        exact hK (K + 100) (by omega)
      · refine ⟨40, ?_⟩
        have f2 : flw b c 1 0 = ([], 8) := by unfold flw; rw [if_neg s2]
        have f1 : flw a b 1 0 = (slx 1 0 a b 0, 0) := by unfold flw; rw [if_pos s1]
        simp only [easementlaw16_RelateChains.j0, easementlaw16_RelateChains.j1]
        rw [if_neg (by decide), flow_eq a b _ _ (by omega), flow_eq b c _ _ (by omega), flow_eq a c _ _ (by omega), f1, f2]
        simp only [Option.bind_some]
        rw [if_pos trivial, if_pos (by decide), relawake_eq 38 (by omega)]
        rcases flw_or a c 1 0 with h | h
        · rw [if_pos h]; rfl
        · split
          · rfl
          · rw [h]; rfl
    · refine ⟨40, ?_⟩
      have f1 : flw a b 1 0 = ([], 8) := by unfold flw; rw [if_neg s1]
      simp only [easementlaw16_RelateChains.j0, easementlaw16_RelateChains.j1]
      rw [if_neg (by decide), flow_eq a b _ _ (by omega), flow_eq b c _ _ (by omega), flow_eq a c _ _ (by omega), f1]
      simp only [Option.bind_some]
      rw [if_neg (by decide), if_pos trivial, relawake_eq 38 (by omega)]
      rcases flw_or a c 1 0 with h | h
      · rw [if_pos h]; rfl
      · split
        · rfl
        · rw [h]; rfl
  obtain ⟨k, hk⟩ := main
  refine ⟨k, ?_⟩
  rw [if_pos (by simpa using h1), if_pos (by simpa using h2), decide_eq_true h3]
  exact hk

end Go.Proofs.Ytnabbhcagonlkaa.Pure
