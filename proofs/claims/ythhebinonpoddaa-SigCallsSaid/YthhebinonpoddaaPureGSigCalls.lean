/- Pure part of GSigCalls: whether any signature may be and what a call of it needs are as the document says -/
import Derived.Test.YthhebinonpoddaaGSigCallsxopen
import Derived.Laws.BitsLemmas
namespace Go.Proofs.Ythhebinonpoddaa.Pure
open Go.RowKit Go.Proofs.Ythhebinonpoddaa.GSigCalls Go.Proofs.YthhebinonpoddaaW.PrintWords Go.Proofs.YthhebinonpoddaaW.PrintLast
set_option linter.unusedSimpArgs false
set_option linter.unusedVariables false

theorem w64 (n : Int) (h0 : -9223372036854775808 ≤ n) (h1 : n < 9223372036854775808) : wrap64 n = n := by unfold wrap64; omega
/-! what types need: both sides -/
def dc (n : S129) : S128 := ⟨n.f0, n.f1, n.f2, n.f3, n.f4⟩
theorem rdS_eq {l : List S115} {i : Nat} (h : i < l.length) : rd_T115 l (i : Int) = l[i] := by
  unfold rd_T115; simp [List.getD_eq_getElem?_getD, List.getElem?_eq_getElem h]
theorem rdN_eq {l : List S129} {i : Nat} (h : i < l.length) : rd_T129 l (i : Int) = l[i] := by
  unfold rd_T129; simp [List.getD_eq_getElem?_getD, List.getElem?_eq_getElem h]
theorem rdM_eq {l : List S128} {i : Nat} (h : i < l.length) : rd_T128 l (i : Int) = l[i] := by
  unfold rd_T128; simp [List.getD_eq_getElem?_getD, List.getElem?_eq_getElem h]
theorem doc_loop (l : List S129) (hl : l.length ≤ 100000) : ∀ (d i k : Nat) (acc : List S128), i + d = l.length → d + 1 ≤ k → acc.length = i → easementlaw16_Doc.l0 k l acc (i : Int) = some (acc ++ (l.drop i).map dc)
  | 0, i, k, acc, hd, hk, ha => by
    obtain ⟨k, rfl⟩ : ∃ m, k = m + 1 := ⟨k - 1, by omega⟩
    simp only [easementlaw16_Doc.l0]
    rw [if_neg (by omega), List.drop_eq_nil_of_le (by omega)]
    simp
  | d + 1, i, k, acc, hd, hk, ha => by
    obtain ⟨k, rfl⟩ : ∃ m, k = m + 1 := ⟨k - 1, by omega⟩
    simp only [easementlaw16_Doc.l0]
    have hi : i < l.length := by omega
    have e1 : (i : Int) + 1 = ((i + 1 : Nat) : Int) := by omega
    rw [if_pos (by omega), if_pos (by omega), if_pos (by omega), rdN_eq hi, w64 _ (by omega) (by omega), e1, doc_loop l hl d (i + 1) k _ (by omega) (by omega) (by rw [List.length_append]; simp [ha]), List.drop_eq_getElem_cons hi, List.map_cons, List.append_assoc]
    rfl
theorem doc_eq (l : List S129) (hl : l.length ≤ 100000) (k : Nat) (hk : l.length + 1 ≤ k) : easementlaw16_Doc.f k l = some (l.map dc) := by
  unfold easementlaw16_Doc.f
  exact doc_loop l hl l.length 0 k [] (by omega) (by omega) rfl
theorem nsame_loop (l : List S128) (hl : l.length ≤ 100000) : ∀ (d i k : Nat), i + d = l.length → d + 1 ≤ k → easementref16_Same.l0 k l l (i : Int) = some true
  | 0, i, k, hd, hk => by
    obtain ⟨k, rfl⟩ : ∃ m, k = m + 1 := ⟨k - 1, by omega⟩
    simp only [easementref16_Same.l0]
    rw [if_neg (by omega)]
  | d + 1, i, k, hd, hk => by
    obtain ⟨k, rfl⟩ : ∃ m, k = m + 1 := ⟨k - 1, by omega⟩
    simp only [easementref16_Same.l0]
    have e1 : (i : Int) + 1 = ((i + 1 : Nat) : Int) := by omega
    rw [if_pos (by omega), if_pos (by omega), if_pos (by omega), if_neg (by simp), w64 _ (by omega) (by omega), e1]
    exact nsame_loop l hl d (i + 1) k (by omega) (by omega)
theorem nsame_self (l : List S128) (hl : l.length ≤ 100000) (k : Nat) (hk : l.length + 1 ≤ k) : easementref16_Same.f k l l = some true := by
  unfold easementref16_Same.f
  rw [if_pos rfl]
  exact nsame_loop l hl l.length 0 k (by omega) (by omega)
theorem slx_len (kind from_ : Int) : ∀ (a b : List S115) (i : Int), (slx kind from_ a b i).length ≤ 2 * a.length
  | [], _, _ => by simp [slx]
  | _ :: _, [], _ => by simp [slx]
  | s :: a, t :: b, i => by
    have := slx_len kind from_ a b (i + 1)
    simp only [slx, List.length_cons, List.length_append]
    split <;> simp <;> omega
def flw (a b : List S115) (kind from_ : Int) : List S129 × Int := if shp a b = true then (slx kind from_ a b 0, 0) else ([], 8)
theorem flow_eq (a b : List S115) (kind from_ : Int) (hl : a.length ≤ 100000) : relate_Flow.f a b kind from_ = some (flw a b kind from_) := by
  unfold relate_Flow.f flw
  split
  · rw [if_pos (by omega)]
  · rfl
theorem rshape_loop (a b : List S115) (h : a.length = b.length) (hl : a.length ≤ 100000) : ∀ (d i k : Nat), i + d = a.length → d + 1 ≤ k → easementref15_Shape.l0 k (i : Int) a b = some (decide ((a.drop i).map (fun x => x.f1) = (b.drop i).map (fun x => x.f1)))
  | 0, i, k, hd, hk => by
    obtain ⟨k, rfl⟩ : ∃ m, k = m + 1 := ⟨k - 1, by omega⟩
    simp only [easementref15_Shape.l0]
    rw [if_neg (by omega), List.drop_eq_nil_of_le (by omega), List.drop_eq_nil_of_le (by omega)]
    simp
  | d + 1, i, k, hd, hk => by
    obtain ⟨k, rfl⟩ : ∃ m, k = m + 1 := ⟨k - 1, by omega⟩
    simp only [easementref15_Shape.l0]
    have hi : i < a.length := by omega
    have hj : i < b.length := by omega
    have e1 : (i : Int) + 1 = ((i + 1 : Nat) : Int) := by omega
    rw [if_pos (by omega), if_pos (by omega), if_pos (by omega), rdS_eq hi, rdS_eq hj, w64 _ (by omega) (by omega), e1, rshape_loop a b h hl d (i + 1) k (by omega) (by omega), List.drop_eq_getElem_cons hi, List.drop_eq_getElem_cons hj, List.map_cons, List.map_cons]
    by_cases c : a[i].f1 = b[i].f1
    · rw [if_neg (by simp [c])]
      congr 1
      apply decide_eq_decide.2
      rw [List.cons.injEq]
      exact ⟨fun h => ⟨c, h⟩, fun h => h.2⟩
    · rw [if_pos (by simpa using c), decide_eq_false]
      intro h
      rw [List.cons.injEq] at h
      exact c h.1
theorem rshape_eq (a b : List S115) (hl : a.length ≤ 100000) (k : Nat) (hk : a.length + 1 ≤ k) : easementref15_Shape.f k a b = some (shp a b) := by
  unfold easementref15_Shape.f
  by_cases h : a.length = b.length
  · rw [if_pos (by omega)]
    exact rshape_loop a b h hl a.length 0 k (by omega) (by omega)
  · rw [if_neg (by omega), shp_len h]
theorem rslots_loop (a b : List S115) (kind from_ : Int) (h : a.length = b.length) (hl : a.length ≤ 100000) : ∀ (d i k : Nat) (acc : List S128), i + d = a.length → d + 1 ≤ k → acc.length ≤ 1000 + 2 * i → easementref16_slots.l0 k acc a b kind from_ (i : Int) = some (acc ++ (slx kind from_ (a.drop i) (b.drop i) (i : Int)).map dc)
  | 0, i, k, acc, hd, hk, ha => by
    obtain ⟨k, rfl⟩ : ∃ m, k = m + 1 := ⟨k - 1, by omega⟩
    simp only [easementref16_slots.l0]
    rw [if_neg (by omega), List.drop_eq_nil_of_le (by omega)]
    simp [slx]
  | d + 1, i, k, acc, hd, hk, ha => by
    obtain ⟨k, rfl⟩ : ∃ m, k = m + 1 := ⟨k - 1, by omega⟩
    simp only [easementref16_slots.l0]
    have hi : i < a.length := by omega
    have hj : i < b.length := by omega
    have e1 : (i : Int) + 1 = ((i + 1 : Nat) : Int) := by omega
    rw [if_pos (by omega), if_pos (by omega), if_pos (by omega), if_pos (by omega), rdS_eq hi, rdS_eq hj, w64 ((i : Int) + 1) (by omega) (by omega), e1]
    simp only [Option.bind_some]
    have hal : ∀ z : S128, (acc ++ [z]).length = acc.length + 1 := by intro z; simp
    rw [List.drop_eq_getElem_cons hi, List.drop_eq_getElem_cons hj]
    simp only [slx]
    by_cases c : b[i].f1 = true
    · rw [if_pos c, if_pos (by rw [hal]; omega), if_pos c, rslots_loop a b kind from_ h hl d (i + 1) k _ (by omega) (by omega) (by rw [List.length_append, hal]; simp; omega), e1]
      simp [dc, List.append_assoc]
    · rw [if_neg c, if_neg c, rslots_loop a b kind from_ h hl d (i + 1) k _ (by omega) (by omega) (by rw [hal]; omega), e1]
      simp [dc, List.append_assoc]
theorem rslots_eq (acc : List S128) (a b : List S115) (kind from_ : Int) (h : a.length = b.length) (hl : a.length ≤ 100000) (k : Nat) (hk : a.length + 1 ≤ k) (ha : acc.length ≤ 1000) :
    easementref16_slots.f k acc a b kind from_ = some (acc ++ (slx kind from_ a b 0).map dc) := by
  unfold easementref16_slots.f
  have := rslots_loop a b kind from_ h hl a.length 0 k acc (by omega) (by omega) (by omega)
  simpa using this
def dcp (p : List S129 × Int) : List S128 × Int := (p.1.map dc, p.2)
theorem rflow_eq (a b : List S115) (kind from_ : Int) (hl : a.length ≤ 100000) (k : Nat) (hk : a.length + 1 ≤ k) : easementref16_Flow.f k a b kind from_ = some (dcp (flw a b kind from_)) := by
  unfold easementref16_Flow.f flw dcp
  rw [rshape_eq a b hl k hk]
  simp only [Option.bind_some]
  by_cases c : shp a b = true
  · rw [if_pos c, if_pos c, rslots_eq [] a b kind from_ (shp_eq c) hl k hk (by simp)]
    simp
  · rw [if_neg c, if_neg c]
    rfl
/-! a signature's call: both sides -/
theorem rdI_eq {l : List Int} {i : Nat} (h : i < l.length) : rd l (i : Int) = l[i] := by
  unfold rd; simp [List.getD_eq_getElem?_getD, List.getElem?_eq_getElem h]
theorem rdT_eq {l : List S44} {i : Nat} (h : i < l.length) : rd_T44 l (i : Int) = l[i] := by
  unfold rd_T44; simp [List.getD_eq_getElem?_getD, List.getElem?_eq_getElem h]
theorem rdB_eq {l : List S117} {i : Nat} (h : i < l.length) : rd_T117 l (i : Int) = l[i] := by
  unfold rd_T117; simp [List.getD_eq_getElem?_getD, List.getElem?_eq_getElem h]
def fewT (l : List S44) : Bool := decide (∀ t ∈ l, t.f0.length ≤ 20)
theorem fewT_cons (t : S44) (l : List S44) : fewT (t :: l) = (decide (t.f0.length ≤ 20) && fewT l) := by
  unfold fewT
  rw [Bool.eq_iff_iff]
  simp
theorem few_loop (l : List S44) (hl : l.length ≤ 20) : ∀ (d i k : Nat), i + d = l.length → d + 1 ≤ k → easementlaw17_few.l0 k l (i : Int) = some (fewT (l.drop i))
  | 0, i, k, hd, hk => by
    obtain ⟨k, rfl⟩ : ∃ m, k = m + 1 := ⟨k - 1, by omega⟩
    simp only [easementlaw17_few.l0]
    rw [if_neg (by omega), List.drop_eq_nil_of_le (by omega)]
    rfl
  | d + 1, i, k, hd, hk => by
    obtain ⟨k, rfl⟩ : ∃ m, k = m + 1 := ⟨k - 1, by omega⟩
    simp only [easementlaw17_few.l0]
    have hi : i < l.length := by omega
    have e1 : (i : Int) + 1 = ((i + 1 : Nat) : Int) := by omega
    rw [if_pos (by omega), if_pos (by omega), rdT_eq hi, w64 _ (by omega) (by omega), e1, few_loop l hl d (i + 1) k (by omega) (by omega), List.drop_eq_getElem_cons hi, fewT_cons]
    unfold easementref15_Few.f
    simp only [Option.bind_some, decide_eq_true_eq]
    by_cases c : (l[i].f0.length : Int) ≤ 20
    · rw [if_pos c, decide_eq_true (show l[i].f0.length ≤ 20 by omega), Bool.true_and]
    · rw [if_neg c, decide_eq_false (show ¬ l[i].f0.length ≤ 20 by omega), Bool.false_and]
theorem fewS_loop (p : Int) (bs : List S117) (l : List S44) (ret : List S115) (hl : l.length ≤ 20) : ∀ (d i k : Nat), i + d = l.length → d + 1 ≤ k → easementref17_Few.l0 k (i : Int) p bs l ret = some (fewT (l.drop i))
  | 0, i, k, hd, hk => by
    obtain ⟨k, rfl⟩ : ∃ m, k = m + 1 := ⟨k - 1, by omega⟩
    simp only [easementref17_Few.l0]
    rw [if_neg (by omega), List.drop_eq_nil_of_le (by omega)]
    rfl
  | d + 1, i, k, hd, hk => by
    obtain ⟨k, rfl⟩ : ∃ m, k = m + 1 := ⟨k - 1, by omega⟩
    simp only [easementref17_Few.l0]
    have hi : i < l.length := by omega
    have e1 : (i : Int) + 1 = ((i + 1 : Nat) : Int) := by omega
    rw [if_pos (by omega), if_pos (by omega), rdT_eq hi, w64 _ (by omega) (by omega), e1, fewS_loop p bs l ret hl d (i + 1) k (by omega) (by omega), List.drop_eq_getElem_cons hi, fewT_cons]
    unfold easementref15_Few.f
    simp only [Option.bind_some, decide_eq_true_eq]
    by_cases c : (l[i].f0.length : Int) ≤ 20
    · rw [if_pos c, decide_eq_true (show l[i].f0.length ≤ 20 by omega), Bool.true_and]
    · rw [if_neg c, decide_eq_false (show ¬ l[i].f0.length ≤ 20 by omega), Bool.false_and]
theorem rdF_few {l : List S44} (h : fewT l = true) (i : Nat) (hi : i < l.length) : l[i].f0.length ≤ 20 := (of_decide_eq_true h) _ (List.getElem_mem hi)
/-- The check of one type. -/
theorem rck15_loop (p : Int) (l : List S115) (hl : l.length ≤ 16) : ∀ (d i k : Nat), i + d = l.length → d + 1 ≤ k → easementref15_Check.l0 k p (i : Int) l = some (if (l.drop i).all (fun s => decide (0 ≤ s.f0) && decide (s.f0 < p)) = true then 0 else 7)
  | 0, i, k, hd, hk => by
    obtain ⟨k, rfl⟩ : ∃ m, k = m + 1 := ⟨k - 1, by omega⟩
    simp only [easementref15_Check.l0]
    rw [if_neg (by omega), List.drop_eq_nil_of_le (by omega)]
    rfl
  | d + 1, i, k, hd, hk => by
    obtain ⟨k, rfl⟩ : ∃ m, k = m + 1 := ⟨k - 1, by omega⟩
    simp only [easementref15_Check.l0]
    have hi : i < l.length := by omega
    have e1 : (i : Int) + 1 = ((i + 1 : Nat) : Int) := by omega
    rw [if_pos (by omega), if_pos (by omega), rdS_eq hi, w64 _ (by omega) (by omega), e1, rck15_loop p l hl d (i + 1) k (by omega) (by omega), List.drop_eq_getElem_cons hi, List.all_cons]
    by_cases c1 : l[i].f0 < 0
    · rw [if_pos c1, decide_eq_false (show ¬ 0 ≤ l[i].f0 by omega)]; rfl
    rw [if_neg c1]
    by_cases c2 : l[i].f0 ≥ p
    · rw [if_pos c2, decide_eq_false (show ¬ l[i].f0 < p by omega), Bool.and_false]; rfl
    rw [if_neg c2, decide_eq_true (show 0 ≤ l[i].f0 by omega), decide_eq_true (show l[i].f0 < p by omega)]
    rfl
theorem rck15_eq (p : Int) (l : List S115) (k : Nat) (hk : 20 ≤ k) : easementref15_Check.f k l p = some (rck p l) := by
  unfold easementref15_Check.f rck
  by_cases c : (l.length : Int) > 16
  · rw [if_pos c, if_pos c]
  · rw [if_neg c, if_neg c]
    exact rck15_loop p l (by omega) l.length 0 k (by omega) (by omega)
theorem rchk1 (p : Int) (bs : List S117) (tys : List S44) (ret : List S115) (ht : tys.length ≤ 20) : ∀ (d i k : Nat), i + d = tys.length → d + 30 ≤ k → easementref17_Check.l1 k (i : Int) p bs tys ret = some (firstErr p ((tys.drop i).map (fun t => t.f0) ++ [ret]))
  | 0, i, k, hd, hk => by
    obtain ⟨k, rfl⟩ : ∃ m, k = m + 1 := ⟨k - 1, by omega⟩
    simp only [easementref17_Check.l1]
    rw [if_neg (by omega), List.drop_eq_nil_of_le (by omega), rck15_eq p ret k (by omega)]
    simp only [Option.bind_some, List.map_nil, List.nil_append, firstErr]
    by_cases c : rck p ret = 0
    · rw [if_pos c, c]
    · rw [if_neg c]
  | d + 1, i, k, hd, hk => by
    obtain ⟨k, rfl⟩ : ∃ m, k = m + 1 := ⟨k - 1, by omega⟩
    simp only [easementref17_Check.l1]
    have hi : i < tys.length := by omega
    have e1 : (i : Int) + 1 = ((i + 1 : Nat) : Int) := by omega
    rw [if_pos (by omega), if_pos (by omega), rdT_eq hi, rck15_eq p _ k (by omega), w64 _ (by omega) (by omega), e1, rchk1 p bs tys ret ht d (i + 1) k (by omega) (by omega), List.drop_eq_getElem_cons hi, List.map_cons, List.cons_append]
    simp only [Option.bind_some, firstErr]
    by_cases c : rck p tys[i].f0 = 0
    · rw [if_pos c, if_pos c]
    · rw [if_neg c, if_neg c]
theorem rchk0 (p : Int) (bs : List S117) (tys : List S44) (ret : List S115) (hb : bs.length ≤ 20) (ht : tys.length ≤ 20) : ∀ (d i k : Nat), i + d = bs.length → d + 60 ≤ k → easementref17_Check.l0 k (i : Int) p bs tys ret = some (if (bs.drop i).any (badB p) = true then 7 else firstErr p (tys.map (fun t => t.f0) ++ [ret]))
  | 0, i, k, hd, hk => by
    obtain ⟨k, rfl⟩ : ∃ m, k = m + 1 := ⟨k - 1, by omega⟩
    simp only [easementref17_Check.l0]
    have := rchk1 p bs tys ret ht tys.length 0 k (by omega) (by omega)
    rw [List.drop_zero] at this
    rw [if_neg (by omega), List.drop_eq_nil_of_le (by omega), show (0 : Int) = ((0 : Nat) : Int) from rfl, this]
    rfl
  | d + 1, i, k, hd, hk => by
    obtain ⟨k, rfl⟩ : ∃ m, k = m + 1 := ⟨k - 1, by omega⟩
    simp only [easementref17_Check.l0]
    have hi : i < bs.length := by omega
    have e1 : (i : Int) + 1 = ((i + 1 : Nat) : Int) := by omega
    rw [if_pos (by omega), if_pos (by omega), rdB_eq hi, w64 _ (by omega) (by omega), e1, rchk0 p bs tys ret hb ht d (i + 1) k (by omega) (by omega), List.drop_eq_getElem_cons hi, List.any_cons]
    by_cases c1 : bs[i].f0 < 0
    · rw [if_pos c1, show badB p bs[i] = true by simp [badB, c1]]; rfl
    rw [if_neg c1]
    by_cases c2 : bs[i].f0 ≥ p
    · rw [if_pos c2, show badB p bs[i] = true by simp [badB, c2]]; rfl
    rw [if_neg c2]
    by_cases c3 : bs[i].f1 < 0
    · rw [if_pos c3, show badB p bs[i] = true by simp [badB, c3]]; rfl
    rw [if_neg c3]
    by_cases c4 : bs[i].f1 ≥ p
    · rw [if_pos c4, show badB p bs[i] = true by simp [badB, c4]]; rfl
    rw [if_neg c4, show badB p bs[i] = false by simp [badB, c1, c2, c3, c4], Bool.false_or]
def cks (p : Int) (bs : List S117) (tys : List S44) (ret : List S115) : Int := if p < 0 then 7 else if p > 16 ∨ (bs.length : Int) > 16 ∨ (tys.length : Int) > 16 then 6 else if bs.any (badB p) = true then 7 else firstErr p (tys.map (fun t => t.f0) ++ [ret])
theorem rcks_eq (p : Int) (bs : List S117) (tys : List S44) (ret : List S115) (k : Nat) (hk : 120 ≤ k) : easementref17_Check.f k p bs tys ret = some (cks p bs tys ret) := by
  obtain ⟨k, rfl⟩ : ∃ m, k = m + 1 := ⟨k - 1, by omega⟩
  unfold easementref17_Check.f cks
  simp only [easementref17_Check.j0]
  by_cases c1 : p < 0
  · rw [if_pos c1, if_pos c1]
  rw [if_neg c1, if_neg c1]
  by_cases c2 : p > 16
  · rw [if_pos c2, if_pos trivial, if_pos (show p > 16 ∨ (bs.length : Int) > 16 ∨ (tys.length : Int) > 16 from .inl c2)]
  rw [if_neg c2]
  by_cases c3 : (bs.length : Int) > 16
  · rw [if_pos c3, if_pos trivial, if_pos (show p > 16 ∨ (bs.length : Int) > 16 ∨ (tys.length : Int) > 16 from .inr (.inl c3))]
  rw [if_neg c3]
  by_cases c4 : (tys.length : Int) > 16
  · rw [decide_eq_true c4, if_pos rfl, if_pos (show p > 16 ∨ (bs.length : Int) > 16 ∨ (tys.length : Int) > 16 from .inr (.inr c4))]
  rw [decide_eq_false c4, if_neg Bool.false_ne_true, if_neg (show ¬ (p > 16 ∨ (bs.length : Int) > 16 ∨ (tys.length : Int) > 16) from fun h => by omega)]
  have := rchk0 p bs tys ret (by omega) (by omega) bs.length 0 k (by omega) (by omega)
  rw [List.drop_zero] at this
  exact this
/-- A type with its regions named. -/
def sub_ (names : List Int) (l : List S115) : List S115 × Int := if l.all (okx names) = true then (l.map (sbx names), 0) else ([], 7)
theorem sub_len (names : List Int) (l : List S115) : (sub_ names l).1.length ≤ l.length := by
  unfold sub_
  split <;> simp
theorem subst_eq (names : List Int) (l : List S115) (hl : l.length ≤ 100) : row_Subst.f l names = some (sub_ names l) := by
  unfold row_Subst.f sub_
  rw [if_pos (by omega)]
  split <;> rfl
theorem rsubst_loop (names : List Int) (l : List S115) (hl : l.length ≤ 100) : ∀ (d i k : Nat) (acc : List S115), i + d = l.length → d + 1 ≤ k → acc.length ≤ i → easementref15_Subst.l0 k names acc (i : Int) l = some (if (l.drop i).all (okx names) = true then (acc ++ (l.drop i).map (sbx names), 0) else ([], 7))
  | 0, i, k, acc, hd, hk, ha => by
    obtain ⟨k, rfl⟩ : ∃ m, k = m + 1 := ⟨k - 1, by omega⟩
    simp only [easementref15_Subst.l0]
    rw [if_neg (by omega), List.drop_eq_nil_of_le (by omega)]
    simp
  | d + 1, i, k, acc, hd, hk, ha => by
    obtain ⟨k, rfl⟩ : ∃ m, k = m + 1 := ⟨k - 1, by omega⟩
    simp only [easementref15_Subst.l0]
    have hi : i < l.length := by omega
    have e1 : (i : Int) + 1 = ((i + 1 : Nat) : Int) := by omega
    rw [if_pos (by omega), if_pos (by omega), rdS_eq hi, w64 _ (by omega) (by omega), e1, List.drop_eq_getElem_cons hi, List.all_cons]
    by_cases c1 : l[i].f0 < 0
    · rw [if_pos c1, show okx names l[i] = false by unfold okx; rw [decide_eq_false (show ¬ 0 ≤ l[i].f0 by omega)]; rfl]; rfl
    rw [if_neg c1]
    by_cases c2 : l[i].f0 ≥ (names.length : Int)
    · rw [if_pos c2, show okx names l[i] = false by unfold okx; rw [decide_eq_false (show ¬ l[i].f0 < (names.length : Int) by omega), Bool.and_false]]; rfl
    have ho : okx names l[i] = true := by unfold okx; rw [decide_eq_true (show 0 ≤ l[i].f0 by omega), decide_eq_true (show l[i].f0 < (names.length : Int) by omega)]; rfl
    rw [if_neg c2, if_pos (by omega), if_pos (by omega), if_pos (by omega), rsubst_loop names l hl d (i + 1) k _ (by omega) (by omega) (by rw [List.length_append]; simp; omega), ho, Bool.true_and, List.map_cons, List.append_assoc]
    rfl
theorem rsubst_eq (names : List Int) (l : List S115) (hl : l.length ≤ 100) (k : Nat) (hk : l.length + 1 ≤ k) : easementref15_Subst.f k l names = some (sub_ names l) := by
  unfold easementref15_Subst.f sub_
  have := rsubst_loop names l hl l.length 0 k [] (by omega) (by omega) (by simp)
  simpa using this
theorem flw_len (a b : List S115) (kind from_ : Int) : (flw a b kind from_).1.length ≤ 2 * a.length := by
  have := slx_len kind from_ a b 0
  unfold flw
  split <;> simp only [List.length_nil] <;> omega
section
variable (p : Int) (names : List Int) (args tys : List S44) (bs : List S117) (ret dst : List S115)
theorem call1 (hlen : args.length = tys.length) (ht : tys.length ≤ 20) (f1 : fewT args = true) (f2 : fewT tys = true) (h3 : ret.length ≤ 20) : ∀ (d i k : Nat) (acc : List S129), i + d = tys.length → d + 60 ≤ k → acc.length ≤ 100 + 40 * i →
    ∃ X, sig_Call.l1 k names args acc tys (tys.length : Int) (i : Int) p bs tys ret dst = some X ∧ easementref17_Call.l1 k names args (acc.map dc) (i : Int) p bs tys ret dst = some (dcp X) ∧ X.1.length ≤ 1000
  | 0, i, k, acc, hd, hk, ha => by
    obtain ⟨k, rfl⟩ : ∃ m, k = m + 1 := ⟨k - 1, by omega⟩
    simp only [sig_Call.l1, easementref17_Call.l1]
    have hs := sub_len names ret
    have hf := flw_len (sub_ names ret).1 dst 6 0
    rw [if_neg (by omega), if_neg (by omega), subst_eq names ret (by omega), rsubst_eq names ret (by omega) k (by omega)]
    simp only [Option.bind_some]
    rw [flow_eq _ _ _ _ (by omega), rflow_eq _ _ _ _ (by omega) k (by omega)]
    simp only [Option.bind_some, dcp]
    generalize flw (sub_ names ret).1 dst 6 0 = F at hf ⊢
    by_cases c : F.2 = 0
    · rw [if_pos c, if_pos c, if_pos (by omega), if_pos (by rw [List.length_map, List.length_map]; omega)]
      exact ⟨_, rfl, by simp, by rw [List.length_append]; omega⟩
    · rw [if_neg c, if_neg c]
      exact ⟨_, rfl, by simp, by simp⟩
  | d + 1, i, k, acc, hd, hk, ha => by
    obtain ⟨k, rfl⟩ : ∃ m, k = m + 1 := ⟨k - 1, by omega⟩
    simp only [sig_Call.l1, easementref17_Call.l1]
    have hi : i < tys.length := by omega
    have hia : i < args.length := by omega
    have e1 : (i : Int) + 1 = ((i + 1 : Nat) : Int) := by omega
    have g1 := rdF_few f2 i hi
    have g2 := rdF_few f1 i hia
    have hf := flw_len args[i].f0 (sub_ names tys[i].f0).1 5 (wrap64 ((i : Int) * 16))
    rw [if_pos (by omega), if_pos (by omega), if_pos (by omega), if_pos (by omega), if_pos (by omega), rdT_eq hi, subst_eq names _ (by omega), rsubst_eq names _ (by omega) k (by omega)]
    simp only [Option.bind_some]
    rw [if_pos (by omega), if_pos (by omega), rdT_eq hia, show (16 : Int) * (i : Int) = (i : Int) * 16 from Int.mul_comm _ _, flow_eq _ _ _ _ (by omega), rflow_eq _ _ _ _ (by omega) k (by omega), w64 ((i : Int) + 1) (by omega) (by omega), e1]
    simp only [Option.bind_some, dcp]
    generalize flw args[i].f0 (sub_ names tys[i].f0).1 5 (wrap64 ((i : Int) * 16)) = F at hf ⊢
    by_cases c : F.2 = 0
    · rw [if_pos c, if_pos c, if_pos (by omega), if_pos (by rw [List.length_map, List.length_map]; omega), ← List.map_append]
      exact call1 hlen ht f1 f2 h3 d (i + 1) k (acc ++ F.1) (by omega) (by omega) (by rw [List.length_append]; omega)
    · rw [if_neg c, if_neg c]
      exact ⟨_, rfl, by simp [dcp], by simp⟩
theorem call0 (hlen : args.length = tys.length) (ht : tys.length ≤ 20) (f1 : fewT args = true) (f2 : fewT tys = true) (h3 : ret.length ≤ 20) (hb : bs.length ≤ 20) (hn : (names.length : Int) = p) (hbad : bs.any (badB p) = false) : ∀ (d i k : Nat) (acc : List S129), i + d = bs.length → d + 90 ≤ k → acc.length ≤ i →
    ∃ X, sig_Call.l0 k names args acc bs (bs.length : Int) (i : Int) p bs tys ret dst = some X ∧ easementref17_Call.l0 k names args (acc.map dc) (i : Int) p bs tys ret dst = some (dcp X) ∧ X.1.length ≤ 1000
  | 0, i, k, acc, hd, hk, ha => by
    obtain ⟨k, rfl⟩ : ∃ m, k = m + 1 := ⟨k - 1, by omega⟩
    simp only [sig_Call.l0, easementref17_Call.l0]
    rw [if_neg (by omega), if_neg (by omega)]
    exact call1 p names args tys bs ret dst hlen ht f1 f2 h3 tys.length 0 k acc (by omega) (by omega) (by omega)
  | d + 1, i, k, acc, hd, hk, ha => by
    obtain ⟨k, rfl⟩ : ∃ m, k = m + 1 := ⟨k - 1, by omega⟩
    simp only [sig_Call.l0, easementref17_Call.l0]
    have hi : i < bs.length := by omega
    have e1 : (i : Int) + 1 = ((i + 1 : Nat) : Int) := by omega
    have hx : badB p bs[i] = false := by
      have := List.any_eq_false.1 hbad bs[i] (List.getElem_mem hi)
      simpa using this
    unfold badB at hx
    simp only [Bool.or_eq_false_iff, decide_eq_false_iff_not] at hx
    obtain ⟨b1, b2, b3, b4⟩ := hx
    have ih := call0 hlen ht f1 f2 h3 hb hn hbad d (i + 1) k (acc ++ [⟨rd names bs[i].f0, rd names bs[i].f1, 4, (i : Int), false⟩]) (by omega) (by omega) (by rw [List.length_append]; simp; omega)
    have p1 : (i : Int) < (bs.length : Int) := by omega
    have p2 : 0 ≤ (i : Int) := by omega
    simp only [if_pos p1, if_pos p2]
    rw [rdB_eq hi, w64 ((i : Int) + 1) (by omega) (by omega), e1]
    have q1 : 0 ≤ bs[i].f0 := by omega
    have q2 : bs[i].f0 < (names.length : Int) := by omega
    have q3 : 0 ≤ bs[i].f1 := by omega
    have q4 : bs[i].f1 < (names.length : Int) := by omega
    have q5 : acc.length < 3518437208883 := by omega
    have q6 : (acc.map dc).length < 3518437208883 := by rw [List.length_map]; omega
    simp only [if_pos q1, if_pos q2, if_pos q3, if_pos q4, if_pos q5, if_pos q6]
    rw [List.map_append] at ih
    exact ih
end
theorem cks_zero {p : Int} {bs : List S117} {tys : List S44} {ret : List S115} (h : cks p bs tys ret = 0) : bs.any (badB p) = false := by
  unfold cks at h
  split at h
  · exact absurd h (by decide)
  split at h
  · exact absurd h (by decide)
  split at h
  · exact absurd h (by decide)
  · rename_i c
    exact Bool.eq_false_iff.mpr c
theorem call_eq (p : Int) (bs : List S117) (tys : List S44) (ret : List S115) (names : List Int) (args : List S44) (dst : List S115) (hb : bs.length ≤ 20) (ht : tys.length ≤ 20) (f1 : fewT args = true) (f2 : fewT tys = true) (h3 : ret.length ≤ 20) (k : Nat) (hk : 150 ≤ k) :
    ∃ X, sig_Call.f k p bs tys ret names args dst = some X ∧ easementref17_Call.f k p bs tys ret names args dst = some (dcp X) ∧ X.1.length ≤ 1000 := by
  obtain ⟨k, rfl⟩ : ∃ m, k = m + 1 := ⟨k - 1, by omega⟩
  unfold sig_Call.f easementref17_Call.f
  rw [rcks_eq p bs tys ret (k + 1) (by omega), show sig_Check.f p bs tys ret = some (cks p bs tys ret) from rfl]
  simp only [Option.bind_some]
  by_cases c : cks p bs tys ret = 0
  · rw [if_pos c, if_pos c]
    have hbad := cks_zero c
    by_cases c2 : (names.length : Int) = p
    · rw [if_pos c2, if_pos c2]
      simp only [sig_Call.j0, easementref17_Call.j0]
      by_cases c3 : args.length = tys.length
      · have e : ((args.length : Int) != (tys.length : Int)) = false := by rw [c3]; exact bne_self_eq_false _
        rw [e, if_neg (by decide), if_neg (by decide)]
        exact call0 p names args tys bs ret dst c3 ht f1 f2 h3 hb c2 hbad bs.length 0 k [] (by omega) (by omega) (by simp)
      · have e : ((args.length : Int) != (tys.length : Int)) = true := bne_iff_ne.mpr (by omega)
        rw [e, if_pos rfl, if_pos rfl]
        exact ⟨_, rfl, rfl, by simp⟩
    · rw [if_neg c2, if_neg c2]
      simp only [sig_Call.j0, easementref17_Call.j0]
      rw [if_pos trivial, if_pos trivial]
      exact ⟨_, rfl, rfl, by simp⟩
  · rw [if_neg c, if_neg c]
    exact ⟨_, rfl, rfl, by simp⟩
theorem sigawake : easementlaw17_awake.f 1499 = some true := by decide +kernel
theorem SigCalls : easementlaw17_SigCalls.Pure := by
  intro p bs tys ret names args dst _ _ _ _
  refine ⟨1500, ?_⟩
  have aw : easementlaw17_SigCalls.j0 1500 names args true p bs tys ret dst = some true := by
    simp only [easementlaw17_SigCalls.j0]
    rw [if_pos trivial, sigawake]
    rfl
  unfold easementlaw17_SigCalls.f
  have few : easementref17_Few.f 1500 p bs tys ret = some (decide (bs.length ≤ 20) && (decide (tys.length ≤ 20) && (decide (ret.length ≤ 20) && fewT tys))) := by
    unfold easementref17_Few.f easementref15_Few.f
    simp only [easementref17_Few.j0, Option.bind_some]
    by_cases c1 : bs.length ≤ 20
    · rw [if_neg (by omega), decide_eq_true c1, Bool.true_and]
      by_cases c2 : tys.length ≤ 20
      · rw [if_neg (by omega), decide_eq_true c2, Bool.true_and]
        by_cases c3 : ret.length ≤ 20
        · have := fewS_loop p bs tys ret c2 tys.length 0 1499 (by omega) (by omega)
          rw [List.drop_zero] at this
          rw [decide_eq_true (show (ret.length : Int) ≤ 20 by omega), decide_eq_true c3, if_neg (by decide), Bool.true_and]
          exact this
        · rw [decide_eq_false (show ¬ (ret.length : Int) ≤ 20 by omega), decide_eq_false c3, if_pos (by decide)]
          rfl
      · rw [if_pos (by omega), decide_eq_false c2, if_pos trivial]
        rfl
    · rw [if_pos (by omega), decide_eq_false c1, if_pos trivial]
      rfl
  rw [few]
  simp only [Option.bind_some]
  by_cases c0 : (decide (bs.length ≤ 20) && (decide (tys.length ≤ 20) && (decide (ret.length ≤ 20) && fewT tys))) = true
  rotate_left
  · rw [if_neg c0]
    exact aw
  rw [if_pos c0]
  simp only [Bool.and_eq_true, decide_eq_true_eq] at c0
  obtain ⟨hb, ht, h3, f2⟩ := c0
  by_cases c1 : (names.length : Int) > 20
  · rw [if_pos c1]
    exact aw
  rw [if_neg c1]
  have fe : easementlaw17_few.f 1500 args = some (decide (args.length ≤ 20) && fewT args) := by
    unfold easementlaw17_few.f
    by_cases c2 : args.length ≤ 20
    · have := few_loop args c2 args.length 0 1500 (by omega) (by omega)
      rw [List.drop_zero] at this
      rw [if_neg (by omega), decide_eq_true c2, Bool.true_and]
      exact this
    · rw [if_pos (by omega), decide_eq_false c2]
      rfl
  rw [fe]
  simp only [Option.bind_some]
  by_cases c2 : (decide (args.length ≤ 20) && fewT args) = true
  rotate_left
  · rw [if_neg c2]
    exact aw
  rw [if_pos c2]
  simp only [Bool.and_eq_true, decide_eq_true_eq] at c2
  unfold easementref15_Few.f
  simp only [Option.bind_some]
  by_cases c3 : (dst.length : Int) ≤ 20
  rotate_left
  · rw [decide_eq_false c3]
    exact aw
  rw [decide_eq_true c3]
  simp only [easementlaw17_SigCalls.j0, Bool.not_true]
  obtain ⟨X, hX, hY, hZ⟩ := call_eq p bs tys ret names args dst hb ht c2.2 f2 h3 1499 (by omega)
  rw [if_neg (by decide), hX, hY, rcks_eq p bs tys ret 1499 (by omega), show sig_Check.f p bs tys ret = some (cks p bs tys ret) from rfl]
  simp only [Option.bind_some]
  rw [if_pos trivial, doc_eq X.1 (by omega) 1499 (by omega)]
  simp only [Option.bind_some, dcp]
  rw [nsame_self (X.1.map dc) (by simp; omega) 1499 (by simp; omega)]
  simp only [Option.bind_some]
  rw [if_pos trivial, if_pos trivial, sigawake]
  rfl

end Go.Proofs.Ythhebinonpoddaa.Pure
