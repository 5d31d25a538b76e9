/- Pure part of GRelateNeeds: what any two types need, taken as one another, borrowed and borrowed again, is as the document says -/
import Derived.Test.YtnabbhcagonlkaaGRelateNeedsxopen
import Derived.Laws.BitsLemmas
namespace Go.Proofs.Ytnabbhcagonlkaa.Pure
open Go.RowKit Go.Proofs.Ytnabbhcagonlkaa.GRelateNeeds Go.Proofs.YtnabbhcagonlkaaW.PrintWords Go.Proofs.YtnabbhcagonlkaaW.PrintLast
set_option linter.unusedSimpArgs false
set_option linter.unusedVariables false

theorem w64 (n : Int) (h0 : -9223372036854775808 ≤ n) (h1 : n < 9223372036854775808) : wrap64 n = n := by unfold wrap64; omega
/-! what types need: both sides -/
def dc (n : S35) : S108 := ⟨n.f0, n.f1, n.f2, n.f3, n.f4⟩
theorem rdS_eq {l : List S107} {i : Nat} (h : i < l.length) : rd_T107 l (i : Int) = l[i] := by
  unfold rd_T107; simp [List.getD_eq_getElem?_getD, List.getElem?_eq_getElem h]
theorem rdN_eq {l : List S35} {i : Nat} (h : i < l.length) : rd_T35 l (i : Int) = l[i] := by
  unfold rd_T35; simp [List.getD_eq_getElem?_getD, List.getElem?_eq_getElem h]
theorem rdM_eq {l : List S108} {i : Nat} (h : i < l.length) : rd_T108 l (i : Int) = l[i] := by
  unfold rd_T108; simp [List.getD_eq_getElem?_getD, List.getElem?_eq_getElem h]
theorem doc_loop (l : List S35) (hl : l.length ≤ 100000) : ∀ (d i k : Nat) (acc : List S108), i + d = l.length → d + 1 ≤ k → acc.length = i → easementlaw16_Doc.l0 k l acc (i : Int) = some (acc ++ (l.drop i).map dc)
  | 0, i, k, acc, hd, hk, ha => by
    obtain ⟨k, rfl⟩ : ∃ m, k = m + 1 := ⟨k - 1, by omega⟩
    simp only [easementlaw16_Doc.l0]
    rw [if_neg (by omega), List.drop_eq_nil_of_le (by omega)]
    simp
  | d + 1, i, k, acc, hd, hk, ha => by
    obtain ⟨k, rfl⟩ : ∃ m, k = m + 1 := ⟨k - 1, by omega⟩
    simp only [easementlaw16_Doc.l0]
    have hi : i < l.length := by omega
    have e1 : (i : Int) + 1 = ((i + 1 : Nat) : Int) := by omega
    rw [if_pos (by omega), if_pos (by omega), if_pos (by omega), rdN_eq hi, w64 _ (by omega) (by omega), e1, doc_loop l hl d (i + 1) k _ (by omega) (by omega) (by rw [List.length_append]; simp [ha]), List.drop_eq_getElem_cons hi, List.map_cons, List.append_assoc]
    rfl
theorem doc_eq (l : List S35) (hl : l.length ≤ 100000) (k : Nat) (hk : l.length + 1 ≤ k) : easementlaw16_Doc.f k l = some (l.map dc) := by
  unfold easementlaw16_Doc.f
  exact doc_loop l hl l.length 0 k [] (by omega) (by omega) rfl
theorem nsame_loop (l : List S108) (hl : l.length ≤ 100000) : ∀ (d i k : Nat), i + d = l.length → d + 1 ≤ k → easementref16_Same.l0 k l l (i : Int) = some true
  | 0, i, k, hd, hk => by
    obtain ⟨k, rfl⟩ : ∃ m, k = m + 1 := ⟨k - 1, by omega⟩
    simp only [easementref16_Same.l0]
    rw [if_neg (by omega)]
  | d + 1, i, k, hd, hk => by
    obtain ⟨k, rfl⟩ : ∃ m, k = m + 1 := ⟨k - 1, by omega⟩
    simp only [easementref16_Same.l0]
    have e1 : (i : Int) + 1 = ((i + 1 : Nat) : Int) := by omega
    rw [if_pos (by omega), if_pos (by omega), if_pos (by omega), if_neg (by simp), w64 _ (by omega) (by omega), e1]
    exact nsame_loop l hl d (i + 1) k (by omega) (by omega)
theorem nsame_self (l : List S108) (hl : l.length ≤ 100000) (k : Nat) (hk : l.length + 1 ≤ k) : easementref16_Same.f k l l = some true := by
  unfold easementref16_Same.f
  rw [if_pos rfl]
  exact nsame_loop l hl l.length 0 k (by omega) (by omega)
theorem slx_len (kind from_ : Int) : ∀ (a b : List S107) (i : Int), (slx kind from_ a b i).length ≤ 2 * a.length
  | [], _, _ => by simp [slx]
  | _ :: _, [], _ => by simp [slx]
  | s :: a, t :: b, i => by
    have := slx_len kind from_ a b (i + 1)
    simp only [slx, List.length_cons, List.length_append]
    split <;> simp <;> omega
def flw (a b : List S107) (kind from_ : Int) : List S35 × Int := if shp a b = true then (slx kind from_ a b 0, 0) else ([], 8)
theorem flow_eq (a b : List S107) (kind from_ : Int) (hl : a.length ≤ 100000) : relate_Flow.f a b kind from_ = some (flw a b kind from_) := by
  unfold relate_Flow.f flw
  split
  · rw [if_pos (by omega)]
  · rfl
theorem rshape_loop (a b : List S107) (h : a.length = b.length) (hl : a.length ≤ 100000) : ∀ (d i k : Nat), i + d = a.length → d + 1 ≤ k → easementref15_Shape.l0 k (i : Int) a b = some (decide ((a.drop i).map (fun x => x.f1) = (b.drop i).map (fun x => x.f1)))
  | 0, i, k, hd, hk => by
    obtain ⟨k, rfl⟩ : ∃ m, k = m + 1 := ⟨k - 1, by omega⟩
    simp only [easementref15_Shape.l0]
    rw [if_neg (by omega), List.drop_eq_nil_of_le (by omega), List.drop_eq_nil_of_le (by omega)]
    simp
  | d + 1, i, k, hd, hk => by
    obtain ⟨k, rfl⟩ : ∃ m, k = m + 1 := ⟨k - 1, by omega⟩
    simp only [easementref15_Shape.l0]
    have hi : i < a.length := by omega
    have hj : i < b.length := by omega
    have e1 : (i : Int) + 1 = ((i + 1 : Nat) : Int) := by omega
    rw [if_pos (by omega), if_pos (by omega), if_pos (by omega), rdS_eq hi, rdS_eq hj, w64 _ (by omega) (by omega), e1, rshape_loop a b h hl d (i + 1) k (by omega) (by omega), List.drop_eq_getElem_cons hi, List.drop_eq_getElem_cons hj, List.map_cons, List.map_cons]
    by_cases c : a[i].f1 = b[i].f1
    · rw [if_neg (by simp [c])]
      congr 1
      apply decide_eq_decide.2
      rw [List.cons.injEq]
      exact ⟨fun h => ⟨c, h⟩, fun h => h.2⟩
    · rw [if_pos (by simpa using c), decide_eq_false]
      intro h
      rw [List.cons.injEq] at h
      exact c h.1
theorem rshape_eq (a b : List S107) (hl : a.length ≤ 100000) (k : Nat) (hk : a.length + 1 ≤ k) : easementref15_Shape.f k a b = some (shp a b) := by
  unfold easementref15_Shape.f
  by_cases h : a.length = b.length
  · rw [if_pos (by omega)]
    exact rshape_loop a b h hl a.length 0 k (by omega) (by omega)
  · rw [if_neg (by omega), shp_len h]
theorem rslots_loop (a b : List S107) (kind from_ : Int) (h : a.length = b.length) (hl : a.length ≤ 100000) : ∀ (d i k : Nat) (acc : List S108), i + d = a.length → d + 1 ≤ k → acc.length ≤ 1000 + 2 * i → easementref16_slots.l0 k acc a b kind from_ (i : Int) = some (acc ++ (slx kind from_ (a.drop i) (b.drop i) (i : Int)).map dc)
  | 0, i, k, acc, hd, hk, ha => by
    obtain ⟨k, rfl⟩ : ∃ m, k = m + 1 := ⟨k - 1, by omega⟩
    simp only [easementref16_slots.l0]
    rw [if_neg (by omega), List.drop_eq_nil_of_le (by omega)]
    simp [slx]
  | d + 1, i, k, acc, hd, hk, ha => by
    obtain ⟨k, rfl⟩ : ∃ m, k = m + 1 := ⟨k - 1, by omega⟩
    simp only [easementref16_slots.l0]
    have hi : i < a.length := by omega
    have hj : i < b.length := by omega
    have e1 : (i : Int) + 1 = ((i + 1 : Nat) : Int) := by omega
    rw [if_pos (by omega), if_pos (by omega), if_pos (by omega), if_pos (by omega), rdS_eq hi, rdS_eq hj, w64 ((i : Int) + 1) (by omega) (by omega), e1]
    simp only [Option.bind_some]
    have hal : ∀ z : S108, (acc ++ [z]).length = acc.length + 1 := by intro z; simp
    rw [List.drop_eq_getElem_cons hi, List.drop_eq_getElem_cons hj]
    simp only [slx]
    by_cases c : b[i].f1 = true
    · rw [if_pos c, if_pos (by rw [hal]; omega), if_pos c, rslots_loop a b kind from_ h hl d (i + 1) k _ (by omega) (by omega) (by rw [List.length_append, hal]; simp; omega), e1]
      simp [dc, List.append_assoc]
    · rw [if_neg c, if_neg c, rslots_loop a b kind from_ h hl d (i + 1) k _ (by omega) (by omega) (by rw [hal]; omega), e1]
      simp [dc, List.append_assoc]
theorem rslots_eq (acc : List S108) (a b : List S107) (kind from_ : Int) (h : a.length = b.length) (hl : a.length ≤ 100000) (k : Nat) (hk : a.length + 1 ≤ k) (ha : acc.length ≤ 1000) :
    easementref16_slots.f k acc a b kind from_ = some (acc ++ (slx kind from_ a b 0).map dc) := by
  unfold easementref16_slots.f
  have := rslots_loop a b kind from_ h hl a.length 0 k acc (by omega) (by omega) (by omega)
  simpa using this
theorem rref_loop (a : List S107) (mut_ : Bool) (hl : a.length ≤ 100000) : ∀ (d i k : Nat) (acc : List S107), i + d = a.length → d + 1 ≤ k → acc.length ≤ 1000 + i → easementref15_Ref.l0 k mut_ acc (i : Int) a = some (acc ++ (a.drop i).map (rfx mut_))
  | 0, i, k, acc, hd, hk, ha => by
    obtain ⟨k, rfl⟩ : ∃ m, k = m + 1 := ⟨k - 1, by omega⟩
    simp only [easementref15_Ref.l0]
    rw [if_neg (by omega), List.drop_eq_nil_of_le (by omega)]
    simp
  | d + 1, i, k, acc, hd, hk, ha => by
    obtain ⟨k, rfl⟩ : ∃ m, k = m + 1 := ⟨k - 1, by omega⟩
    simp only [easementref15_Ref.l0]
    have hi : i < a.length := by omega
    have e1 : (i : Int) + 1 = ((i + 1 : Nat) : Int) := by omega
    have hal : ∀ z : S107, (acc ++ [z]).length = acc.length + 1 := by intro z; simp
    rw [if_pos (by omega), if_pos (by omega), rdS_eq hi, w64 ((i : Int) + 1) (by omega) (by omega), e1, List.drop_eq_getElem_cons hi, List.map_cons]
    by_cases c : a[i].f1 = true
    · rw [if_pos c, if_pos (by omega), rref_loop a mut_ hl d (i + 1) k _ (by omega) (by omega) (by rw [hal]; omega), List.append_assoc]
      simp [rfx, c]
    · rw [if_neg c, if_pos (by omega), rref_loop a mut_ hl d (i + 1) k _ (by omega) (by omega) (by rw [hal]; omega), List.append_assoc]
      simp [rfx, c]
theorem rref_eq (a : List S107) (region : Int) (mut_ : Bool) (hl : a.length ≤ 100000) (k : Nat) (hk : a.length + 1 ≤ k) : easementref15_Ref.f k a region mut_ = some ([⟨region, false⟩] ++ a.map (rfx mut_)) := by
  unfold easementref15_Ref.f
  have := rref_loop a mut_ hl a.length 0 k [⟨region, false⟩] (by omega) (by omega) (by simp)
  simpa using this
/-- the three, each as one answer -/
def lon (a b : List S107) (region : Int) (mut_ : Bool) : List S35 × Int := if shp ([⟨region, false⟩] ++ a.map (rfx mut_)) b = true then ([⟨region, (rd_T107 b 0).f0, 2, 0, false⟩] ++ slx 1 1 a (b.drop 1) 0, 0) else ([], 8)
def agn (a b : List S107) (region : Int) (mut_ : Bool) : List S35 × Int := if drf a = true ∧ shp a b = true then (if (mut_ && !(a.drop 1).all (fun s => s.f1)) = true then ([], 8) else ([⟨(rd_T107 a 0).f0, region, 3, 0, false⟩] ++ [⟨region, (rd_T107 b 0).f0, 2, 0, false⟩] ++ slx 1 1 (a.drop 1) (b.drop 1) 0, 0)) else ([], 8)
def dcp (p : List S35 × Int) : List S108 × Int := (p.1.map dc, p.2)
theorem rflow_eq (a b : List S107) (kind from_ : Int) (hl : a.length ≤ 100000) (k : Nat) (hk : a.length + 1 ≤ k) : easementref16_Flow.f k a b kind from_ = some (dcp (flw a b kind from_)) := by
  unfold easementref16_Flow.f flw dcp
  rw [rshape_eq a b hl k hk]
  simp only [Option.bind_some]
  by_cases c : shp a b = true
  · rw [if_pos c, if_pos c, rslots_eq [] a b kind from_ (shp_eq c) hl k hk (by simp)]
    simp
  · rw [if_neg c, if_neg c]
    rfl
theorem loan_len {a b : List S107} {region : Int} {mut_ : Bool} (c : shp ([⟨region, false⟩] ++ a.map (rfx mut_)) b = true) : b.length = a.length + 1 := by
  have := shp_eq c
  simp at this
  omega
theorem loan_eq (a b : List S107) (region : Int) (mut_ : Bool) (hl : a.length ≤ 100000) : relate_Loan.f a b region mut_ = some (lon a b region mut_) := by
  unfold relate_Loan.f row_Ref.f relate_Loan.fin lon
  rw [if_pos (by omega)]
  simp only [Option.bind_some]
  by_cases c : shp ([⟨region, false⟩] ++ a.map (rfx mut_)) b = true
  · have := loan_len c
    rw [if_pos c, if_pos c, if_pos (by omega), if_pos (by rw [List.length_drop]; omega), if_pos (by omega)]
  · rw [if_neg c, if_neg c]
theorem rloan_eq (a b : List S107) (region : Int) (mut_ : Bool) (hl : a.length ≤ 10000) (k : Nat) (hk : a.length + 2 ≤ k) : easementref16_Loan.f k a b region mut_ = some (dcp (lon a b region mut_)) := by
  unfold easementref16_Loan.f lon dcp
  rw [rref_eq a region mut_ (by omega) k (by omega)]
  simp only [Option.bind_some]
  rw [rshape_eq _ b (by simp; omega) k (by simp; omega)]
  simp only [Option.bind_some]
  by_cases c : shp ([⟨region, false⟩] ++ a.map (rfx mut_)) b = true
  · have := loan_len c
    rw [if_pos c, if_pos c, if_pos (by omega), if_pos (by omega), rslots_eq _ a (b.drop 1) 1 1 (by rw [List.length_drop]; omega) (by omega) k (by omega) (by simp)]
    simp [dc]
  · rw [if_neg c, if_neg c]
    rfl
theorem shp_first {a b : List S107} (h : shp a b = true) : drf b = drf a := by
  cases a with
  | nil =>
    cases b with
    | nil => rfl
    | cons t b => have := shp_eq h; simp at this
  | cons s a =>
    cases b with
    | nil => have := shp_eq h; simp at this
    | cons t b =>
      unfold shp at h
      have := of_decide_eq_true h
      simp only [List.map_cons, List.cons.injEq] at this
      simp [drf, this.1]
theorem again_eq (a b : List S107) (region : Int) (mut_ : Bool) (hl : a.length ≤ 100000) (hb : b.length ≤ 100000) : relate_Again.f a b region mut_ = some (agn a b region mut_) := by
  unfold relate_Again.f relate_Again.fin agn
  rw [if_pos (by omega), if_pos (by omega)]
  by_cases c1 : drf a = true
  · rw [if_pos c1]
    by_cases c3 : shp a b = true
    · have c2 : drf b = true := by rw [shp_first c3]; exact c1
      have c4 : drf a = true ∧ shp a b = true := ⟨c1, c3⟩
      rw [if_pos c2, if_pos c3, if_pos c4]
      split <;> rfl
    · have c4 : ¬ (drf a = true ∧ shp a b = true) := fun h => c3 h.2
      rw [if_neg c3, if_neg c4]
      split <;> rfl
  · rw [if_neg c1, if_neg (fun h => c1 h.1)]
theorem ragain_loop (a b : List S107) (region : Int) (mut_ : Bool) (h : a.length = b.length) (h0 : 0 < a.length) (hl : a.length ≤ 1000) : ∀ (d i k : Nat), i + d = a.length → 1 ≤ i → a.length + d + 3 ≤ k →
    easementref16_Again.l0 k region mut_ (i : Int) a b = some (dcp (if (mut_ && !(a.drop i).all (fun s => s.f1)) = true then ([], 8) else ([⟨(rd_T107 a 0).f0, region, 3, 0, false⟩] ++ [⟨region, (rd_T107 b 0).f0, 2, 0, false⟩] ++ slx 1 1 (a.drop 1) (b.drop 1) 0, 0)))
  | 0, i, k, hd, hi, hk => by
    obtain ⟨k, rfl⟩ : ∃ m, k = m + 1 := ⟨k - 1, by omega⟩
    simp only [easementref16_Again.l0]
    rw [if_neg (by omega), if_pos (by omega), if_pos (by omega), if_pos (by omega), if_pos (by omega), rslots_eq _ (a.drop 1) (b.drop 1) 1 1 (by rw [List.length_drop, List.length_drop]; omega) (by rw [List.length_drop]; omega) k (by rw [List.length_drop]; omega) (by simp), List.drop_eq_nil_of_le (show a.length ≤ i by omega)]
    simp [dcp, dc]
  | d + 1, i, k, hd, hi, hk => by
    obtain ⟨k, rfl⟩ : ∃ m, k = m + 1 := ⟨k - 1, by omega⟩
    simp only [easementref16_Again.l0]
    have hia : i < a.length := by omega
    have e1 : (i : Int) + 1 = ((i + 1 : Nat) : Int) := by omega
    have ih := ragain_loop a b region mut_ h h0 hl d (i + 1) k (by omega) (by omega) (by omega)
    rw [if_pos (by omega), w64 ((i : Int) + 1) (by omega) (by omega), e1, List.drop_eq_getElem_cons hia, List.all_cons]
    cases mut_ with
    | false =>
      rw [if_neg (by decide), ih]
      rfl
    | true =>
      rw [if_pos rfl, if_pos (by omega), rdS_eq hia]
      by_cases c : a[i].f1 = true
      · rw [if_pos c, ih, c]
        rfl
      · rw [if_neg c, Bool.eq_false_iff.mpr c]
        rfl
theorem ragain_eq (a b : List S107) (region : Int) (mut_ : Bool) (hl : a.length ≤ 1000) (k : Nat) (hk : 2 * a.length + 5 ≤ k) : easementref16_Again.f k a b region mut_ = some (dcp (agn a b region mut_)) := by
  obtain ⟨k, rfl⟩ : ∃ m, k = m + 1 := ⟨k - 1, by omega⟩
  unfold easementref16_Again.f agn
  cases a with
  | nil =>
    rw [if_pos (show ((([] : List S107).length : Nat) : Int) = 0 from rfl), if_neg (by simp [drf])]
    simp [easementref16_Again.j0, dcp]
  | cons s a =>
    rw [if_neg (by rw [List.length_cons]; omega), rshape_eq _ b (by omega) _ (by omega)]
    simp only [Option.bind_some]
    by_cases c : shp (s :: a) b = true
    · rw [if_pos c, if_pos (by rw [List.length_cons]; omega)]
      have e0 : rd_T107 (s :: a) 0 = s := rfl
      simp only [easementref16_Again.j0]
      rw [show (rd_T107 (s :: a) 0).f1 = s.f1 from rfl]
      by_cases c1 : s.f1 = true
      · rw [if_pos c1, if_neg (by simp [drf, c1])]
        rfl
      · have := ragain_loop (s :: a) b region mut_ (shp_eq c) (by simp) hl a.length 1 k (by simp; omega) (by omega) (by simp at hk ⊢; omega)
        rw [if_neg c1, if_pos ⟨by simpa [drf] using c1, c⟩]
        exact this
    · rw [if_neg c, if_neg (fun h => c h.2)]
      simp [easementref16_Again.j0, dcp]
theorem relawake_eq (k : Nat) (hk : 20 ≤ k) : easementlaw16_awake.f k = some true := by
  unfold easementlaw16_awake.f
  rw [flow_eq _ _ _ _ (by simp)]
  have e : flw [⟨1, false⟩, ⟨2, true⟩] [⟨3, false⟩, ⟨4, true⟩] 1 0 = ([⟨1, 3, 1, 0, false⟩, ⟨2, 4, 1, 1, false⟩, ⟨4, 2, 1, 1, true⟩], 0) := by
    have hs : shp [⟨1, false⟩, ⟨2, true⟩] [⟨3, false⟩, ⟨4, true⟩] = true := rfl
    unfold flw
    rw [if_pos hs]
    simp only [slx]
    rw [w64 (0 + 0) (by omega) (by omega), w64 (0 + (0 + 1)) (by omega) (by omega)]
    rfl
  rw [e]
  simp only [Option.bind_some]
  rw [if_pos trivial, doc_eq _ (by simp) k (by simp; omega)]
  simp only [Option.bind_some]
  have s := nsame_self [⟨1, 3, 1, 0, false⟩, ⟨2, 4, 1, 1, false⟩, ⟨4, 2, 1, 1, true⟩] (by simp) k (by simp; omega)
  show (easementref16_Same.f k _ _).bind _ = _
  rw [show List.map dc [⟨1, 3, 1, 0, false⟩, ⟨2, 4, 1, 1, false⟩, ⟨4, 2, 1, 1, true⟩] = [⟨1, 3, 1, 0, false⟩, ⟨2, 4, 1, 1, false⟩, ⟨4, 2, 1, 1, true⟩] from rfl, s]
  rfl
theorem rel_len (a b : List S107) (kind from_ region : Int) (mut_ : Bool) (h : a.length ≤ 20) : (flw a b kind from_).1.length ≤ 60 ∧ (lon a b region mut_).1.length ≤ 60 ∧ (agn a b region mut_).1.length ≤ 60 := by
  have e1 := slx_len kind from_ a b 0
  have e2 := slx_len 1 1 a (b.drop 1) 0
  have e3 := slx_len 1 1 (a.drop 1) (b.drop 1) 0
  rw [List.length_drop] at e3
  refine ⟨?_, ?_, ?_⟩
  · unfold flw
    split <;> simp only [List.length_nil] <;> omega
  · unfold lon
    split <;> simp only [List.length_append, List.length_cons, List.length_nil] <;> omega
  · unfold agn
    split
    · split <;> simp only [List.length_append, List.length_cons, List.length_nil] <;> omega
    · simp only [List.length_nil]; omega
theorem RelateNeeds : easementlaw16_RelateNeeds.Pure := by
  intro a b region kind from_ mut_ _ _ _ _ _
  refine ⟨200, ?_⟩
  have aw : ∀ (x y z : Int) (m : Bool) , easementlaw16_RelateNeeds.j0 200 x y z m true a b = some true := by
    intro x y z m
    simp only [easementlaw16_RelateNeeds.j0]
    rw [if_pos trivial, relawake_eq 199 (by omega)]
    rfl
  unfold easementlaw16_RelateNeeds.f easementref15_Few.f
  simp only [Option.bind_some]
  by_cases h1 : (a.length : Int) ≤ 20
  rotate_left
  · rw [if_neg (by simpa using h1)]
    exact aw _ _ _ _
  rw [if_pos (by simpa using h1)]
  by_cases h2 : (b.length : Int) ≤ 20
  rotate_left
  · rw [if_neg (by simpa using h2)]
    exact aw _ _ _ _
  rw [if_pos (by simpa using h2)]
  cases hd : decide (from_ > 1099511627776) with
  | true => exact aw _ _ _ _
  | false =>
    simp only [easementlaw16_RelateNeeds.j0]
    rw [if_neg (by decide)]
    obtain ⟨n1, n2, n3⟩ := rel_len a b kind from_ region mut_ (by omega)
    rw [flow_eq _ _ _ _ (by omega), rflow_eq _ _ _ _ (by omega) 199 (by omega), loan_eq _ _ _ _ (by omega), rloan_eq _ _ _ _ (by omega) 199 (by omega), again_eq _ _ _ _ (by omega) (by omega), ragain_eq _ _ _ _ (by omega) 199 (by omega)]
    simp only [Option.bind_some]
    generalize flw a b kind from_ = p at n1 ⊢
    generalize lon a b region mut_ = q at n2 ⊢
    generalize agn a b region mut_ = r at n3 ⊢
    unfold dcp
    dsimp only
    rw [doc_eq p.1 (by omega) 199 (by omega), doc_eq q.1 (by omega) 199 (by omega), doc_eq r.1 (by omega) 199 (by omega)]
    simp only [Option.bind_some]
    rw [nsame_self (p.1.map dc) (by simp; omega) 199 (by simp; omega), nsame_self (q.1.map dc) (by simp; omega) 199 (by simp; omega), nsame_self (r.1.map dc) (by simp; omega) 199 (by simp; omega)]
    simp only [Option.bind_some]
    rw [if_pos trivial, if_pos trivial, if_pos trivial, if_pos trivial, if_pos trivial, if_pos trivial, relawake_eq 199 (by omega)]
    rfl

end Go.Proofs.Ytnabbhcagonlkaa.Pure
