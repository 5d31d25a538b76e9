/- Pure part of GRelateHolds: a type that is taken as itself needs what always holds, and whether any needs hold is as the document says -/
import Derived.Test.YtnabbhcagonlkaaGRelateHoldsxopen
import Derived.Laws.BitsLemmas
namespace Go.Proofs.Ytnabbhcagonlkaa.Pure
open Go.RowKit Go.Proofs.Ytnabbhcagonlkaa.GRelateHolds Go.Proofs.YtnabbhcagonlkaaW.PrintWords Go.Proofs.YtnabbhcagonlkaaW.PrintLast
set_option linter.unusedSimpArgs false
set_option linter.unusedVariables false

theorem w64 (n : Int) (h0 : -9223372036854775808 ≤ n) (h1 : n < 9223372036854775808) : wrap64 n = n := by unfold wrap64; omega
/-! what types need: both sides -/
def dc (n : S35) : S108 := ⟨n.f0, n.f1, n.f2, n.f3, n.f4⟩
theorem rdS_eq {l : List S107} {i : Nat} (h : i < l.length) : rd_T107 l (i : Int) = l[i] := by
  unfold rd_T107; simp [List.getD_eq_getElem?_getD, List.getElem?_eq_getElem h]
theorem rdN_eq {l : List S35} {i : Nat} (h : i < l.length) : rd_T35 l (i : Int) = l[i] := by
  unfold rd_T35; simp [List.getD_eq_getElem?_getD, List.getElem?_eq_getElem h]
theorem rdM_eq {l : List S108} {i : Nat} (h : i < l.length) : rd_T108 l (i : Int) = l[i] := by
  unfold rd_T108; simp [List.getD_eq_getElem?_getD, List.getElem?_eq_getElem h]
theorem doc_loop (l : List S35) (hl : l.length ≤ 100000) : ∀ (d i k : Nat) (acc : List S108), i + d = l.length → d + 1 ≤ k → acc.length = i → easementlaw16_Doc.l0 k l acc (i : Int) = some (acc ++ (l.drop i).map dc)
  | 0, i, k, acc, hd, hk, ha => by
    obtain ⟨k, rfl⟩ : ∃ m, k = m + 1 := ⟨k - 1, by omega⟩
    simp only [easementlaw16_Doc.l0]
    rw [if_neg (by omega), List.drop_eq_nil_of_le (by omega)]
    simp
  | d + 1, i, k, acc, hd, hk, ha => by
    obtain ⟨k, rfl⟩ : ∃ m, k = m + 1 := ⟨k - 1, by omega⟩
    simp only [easementlaw16_Doc.l0]
    have hi : i < l.length := by omega
    have e1 : (i : Int) + 1 = ((i + 1 : Nat) : Int) := by omega
    rw [if_pos (by omega), if_pos (by omega), if_pos (by omega), rdN_eq hi, w64 _ (by omega) (by omega), e1, doc_loop l hl d (i + 1) k _ (by omega) (by omega) (by rw [List.length_append]; simp [ha]), List.drop_eq_getElem_cons hi, List.map_cons, List.append_assoc]
    rfl
theorem doc_eq (l : List S35) (hl : l.length ≤ 100000) (k : Nat) (hk : l.length + 1 ≤ k) : easementlaw16_Doc.f k l = some (l.map dc) := by
  unfold easementlaw16_Doc.f
  exact doc_loop l hl l.length 0 k [] (by omega) (by omega) rfl
theorem nsame_loop (l : List S108) (hl : l.length ≤ 100000) : ∀ (d i k : Nat), i + d = l.length → d + 1 ≤ k → easementref16_Same.l0 k l l (i : Int) = some true
  | 0, i, k, hd, hk => by
    obtain ⟨k, rfl⟩ : ∃ m, k = m + 1 := ⟨k - 1, by omega⟩
    simp only [easementref16_Same.l0]
    rw [if_neg (by omega)]
  | d + 1, i, k, hd, hk => by
    obtain ⟨k, rfl⟩ : ∃ m, k = m + 1 := ⟨k - 1, by omega⟩
    simp only [easementref16_Same.l0]
    have e1 : (i : Int) + 1 = ((i + 1 : Nat) : Int) := by omega
    rw [if_pos (by omega), if_pos (by omega), if_pos (by omega), if_neg (by simp), w64 _ (by omega) (by omega), e1]
    exact nsame_loop l hl d (i + 1) k (by omega) (by omega)
theorem nsame_self (l : List S108) (hl : l.length ≤ 100000) (k : Nat) (hk : l.length + 1 ≤ k) : easementref16_Same.f k l l = some true := by
  unfold easementref16_Same.f
  rw [if_pos rfl]
  exact nsame_loop l hl l.length 0 k (by omega) (by omega)
theorem slx_len (kind from_ : Int) : ∀ (a b : List S107) (i : Int), (slx kind from_ a b i).length ≤ 2 * a.length
  | [], _, _ => by simp [slx]
  | _ :: _, [], _ => by simp [slx]
  | s :: a, t :: b, i => by
    have := slx_len kind from_ a b (i + 1)
    simp only [slx, List.length_cons, List.length_append]
    split <;> simp <;> omega
def flw (a b : List S107) (kind from_ : Int) : List S35 × Int := if shp a b = true then (slx kind from_ a b 0, 0) else ([], 8)
theorem flow_eq (a b : List S107) (kind from_ : Int) (hl : a.length ≤ 100000) : relate_Flow.f a b kind from_ = some (flw a b kind from_) := by
  unfold relate_Flow.f flw
  split
  · rw [if_pos (by omega)]
  · rfl
theorem relawake_eq (k : Nat) (hk : 20 ≤ k) : easementlaw16_awake.f k = some true := by
  unfold easementlaw16_awake.f
  rw [flow_eq _ _ _ _ (by simp)]
  have e : flw [⟨1, false⟩, ⟨2, true⟩] [⟨3, false⟩, ⟨4, true⟩] 1 0 = ([⟨1, 3, 1, 0, false⟩, ⟨2, 4, 1, 1, false⟩, ⟨4, 2, 1, 1, true⟩], 0) := by
    have hs : shp [⟨1, false⟩, ⟨2, true⟩] [⟨3, false⟩, ⟨4, true⟩] = true := rfl
    unfold flw
    rw [if_pos hs]
    simp only [slx]
    rw [w64 (0 + 0) (by omega) (by omega), w64 (0 + (0 + 1)) (by omega) (by omega)]
    rfl
  rw [e]
  simp only [Option.bind_some]
  rw [if_pos trivial, doc_eq _ (by simp) k (by simp; omega)]
  simp only [Option.bind_some]
  have s := nsame_self [⟨1, 3, 1, 0, false⟩, ⟨2, 4, 1, 1, false⟩, ⟨4, 2, 1, 1, true⟩] (by simp) k (by simp; omega)
  show (easementref16_Same.f k _ _).bind _ = _
  rw [show List.map dc [⟨1, 3, 1, 0, false⟩, ⟨2, 4, 1, 1, false⟩, ⟨4, 2, 1, 1, true⟩] = [⟨1, 3, 1, 0, false⟩, ⟨2, 4, 1, 1, false⟩, ⟨4, 2, 1, 1, true⟩] from rfl, s]
  rfl
theorem flow_self (kind from_ : Int) : ∀ (a : List S107) (i : Int), (slx kind from_ a a i).all (fun n => n.f0 == n.f1) = true
  | [], _ => rfl
  | s :: a, i => by
    simp only [slx, List.all_cons, List.all_append]
    rw [flow_self kind from_ a (i + 1)]
    by_cases c : s.f1 = true <;> simp [c]
theorem shp_self (a : List S107) : shp a a = true := by unfold shp; exact decide_eq_true rfl
theorem all_take {α : Type} (p : α → Bool) (l : List α) (i : Nat) (h : i < l.length) : (l.take (i + 1)).all p = ((l.take i).all p && p l[i]) := by
  rw [List.take_succ_eq_append_getElem h, List.all_append]
  simp
theorem holds_loop (l m : List S35) (e : Int) (hm : m.length ≤ 1000) (hl : l.all (fun n => n.f0 == n.f1) = true) (he : e = 0 ∨ m = []) : ∀ (d i k : Nat) (s t : Bool), i + d = m.length → d + 30 ≤ k → s = (m.take i).all (fun n => n.f0 == n.f1) → t = (m.take i).all (fun n => decide (n.f0 ≥ n.f1)) →
    easementlaw16_RelateHolds.l0 k l 0 m e s t (i : Int) = some true
  | 0, i, k, s, t, hd, hk, hs, ht => by
    obtain ⟨k, rfl⟩ : ∃ m, k = m + 1 := ⟨k - 1, by omega⟩
    simp only [easementlaw16_RelateHolds.l0]
    rw [List.take_of_length_le (by omega)] at hs ht
    have h1 : relate_Holds.f l 20 = some true := by
      unfold relate_Holds.f
      rw [if_pos (.inr (.inl rfl))]
      exact congrArg some hl
    have h2 : relate_Holds.f m 21 = some true := by
      unfold relate_Holds.f
      rw [if_pos (.inl rfl)]
      exact congrArg some (List.all_eq_true.2 (fun _ _ => rfl))
    have h3 : relate_Holds.f m 20 = some s := by
      unfold relate_Holds.f
      rw [if_pos (.inr (.inl rfl)), hs]
      rfl
    have h4 : relate_Holds.f m 22 = some t := by
      unfold relate_Holds.f
      rw [if_pos (.inr (.inr rfl)), ht]
      rfl
    rw [if_neg (by omega), if_pos trivial, h1]
    simp only [Option.bind_some]
    rw [if_pos trivial, h2, h3, h4]
    simp only [Option.bind_some]
    rw [relawake_eq k (by omega)]
    rcases he with rfl | rfl
    · simp
    · simp
  | d + 1, i, k, s, t, hd, hk, hs, ht => by
    obtain ⟨k, rfl⟩ : ∃ m, k = m + 1 := ⟨k - 1, by omega⟩
    simp only [easementlaw16_RelateHolds.l0]
    have hi : i < m.length := by omega
    have e1 : (i : Int) + 1 = ((i + 1 : Nat) : Int) := by omega
    have ih := fun s' t' => holds_loop l m e hm hl he d (i + 1) k s' t' (by omega) (by omega)
    rw [all_take _ m i hi, ← hs] at ih
    rw [all_take _ m i hi, ← ht] at ih
    rw [if_pos (by omega), rdN_eq hi, w64 ((i : Int) + 1) (by omega) (by omega), e1]
    have hp : (0 : Int) ≤ (i : Int) := by omega
    cases s with
    | true =>
      rw [if_pos rfl, if_pos hp]
      cases t with
      | true => rw [if_pos rfl]; exact ih _ _ rfl rfl
      | false => rw [if_neg (by decide)]; exact ih _ _ rfl rfl
    | false =>
      rw [if_neg (by decide)]
      cases t with
      | true => rw [if_pos rfl, if_pos hp]; exact ih _ _ rfl rfl
      | false => rw [if_neg (by decide)]; exact ih _ _ rfl rfl
theorem RelateHolds : easementlaw16_RelateHolds.Pure := by
  intro a b _ _
  refine ⟨200, ?_⟩
  have aw : easementlaw16_RelateHolds.j0 200 true a b = some true := by
    simp only [easementlaw16_RelateHolds.j0]
    rw [if_pos trivial, relawake_eq 199 (by omega)]
    rfl
  unfold easementlaw16_RelateHolds.f easementref15_Few.f
  simp only [Option.bind_some]
  by_cases h1 : (a.length : Int) ≤ 20
  rotate_left
  · rw [if_neg (by simpa using h1)]
    exact aw
  rw [if_pos (by simpa using h1)]
  by_cases h2 : (b.length : Int) ≤ 20
  rotate_left
  · rw [decide_eq_false h2]
    exact aw
  rw [decide_eq_true h2]
  simp only [easementlaw16_RelateHolds.j0, Bool.not_true]
  rw [if_neg (by decide), flow_eq a a _ _ (by omega), flow_eq a b _ _ (by omega)]
  simp only [Option.bind_some]
  have es : flw a a 1 0 = (slx 1 0 a a 0, 0) := by unfold flw; rw [if_pos (shp_self a)]
  rw [es]
  have e1 := slx_len 1 0 a b 0
  have hz : (flw a b 1 0).2 = 0 ∨ (flw a b 1 0).1 = [] := by
    unfold flw
    split
    · exact .inl rfl
    · exact .inr rfl
  have hn : (flw a b 1 0).1.length ≤ 60 := by
    unfold flw
    split <;> simp only [List.length_nil] <;> omega
  exact holds_loop _ _ _ (by omega) (flow_self 1 0 a 0) hz (flw a b 1 0).1.length 0 199 true true (by omega) (by omega) rfl rfl

end Go.Proofs.Ytnabbhcagonlkaa.Pure
