/- Pure part of GStmtNeeds: whether any statement may be and what it needs are as the document says -/
import Derived.Test.YthhebinonpoddaaGStmtNeedsxopen
import Derived.Laws.BitsLemmas
namespace Go.Proofs.Ythhebinonpoddaa.Pure
open Go.RowKit Go.Proofs.Ythhebinonpoddaa.GStmtNeeds Go.Proofs.YthhebinonpoddaaW.PrintWords Go.Proofs.YthhebinonpoddaaW.PrintLast
set_option linter.unusedSimpArgs false
set_option linter.unusedVariables false

/-! plain facts on numbers as bytes -/
theorem w64 (n : Int) (h0 : -9223372036854775808 ≤ n) (h1 : n < 9223372036854775808) : wrap64 n = n := by unfold wrap64; omega
/-- how many bytes follow -/
def mo (n : Int) : Int := if n < 248 then 0 else if n < 256 then 1 else if n < 65536 then 2 else if n < 16777216 then 3 else 4
theorem more_eq (n : Int) (h0 : 0 ≤ n) (h1 : n ≤ 4294967295) (k : Nat) (hk : 6 ≤ k) : leb_more.f k n = some (mo n) := by
  obtain ⟨m, rfl⟩ : ∃ m, k = m + 6 := ⟨k - 6, by omega⟩
  unfold leb_more.f mo
  have e1 : wrap64 (0 + 1) = 1 := by decide +kernel
  have e2 : wrap64 (1 + 1) = 2 := by decide +kernel
  have e3 : wrap64 (2 + 1) = 3 := by decide +kernel
  have e4 : wrap64 (3 + 1) = 4 := by decide +kernel
  simp only [leb_more.l0, e1, e2, e3, e4]
  by_cases c : n < 248
  · rw [if_neg (by omega), if_pos c]
  rw [if_pos (by omega), if_pos (by omega), if_neg c]
  by_cases c : n < 256
  · rw [if_pos (by omega), if_neg (by omega), if_pos c]
  rw [if_pos (by omega), if_pos (by omega), if_neg c]
  by_cases c : n < 65536
  · rw [if_pos (by omega), if_neg (by omega), if_pos c]
  rw [if_pos (by omega), if_pos (by omega), if_neg c]
  by_cases c : n < 16777216
  · rw [if_pos (by omega), if_neg (by omega), if_pos c]
  rw [if_pos (by omega), if_pos (by omega), if_neg c]
  rw [if_pos (by omega), if_neg (by omega)]
/-- a number's bytes -/
def putL (n : Int) : List Int := if n < 0 then [] else if n > 4294967295 then [] else if n < 248 then [n] else if n < 256 then [248, n] else if n < 65536 then [249, n / 256, n % 256] else if n < 16777216 then [250, n / 65536, n / 256 % 256, n % 256] else [251, n / 16777216, n / 65536 % 256, n / 256 % 256, n % 256]
theorem putL_none {n : Int} (h : n < 0 ∨ n > 4294967295) : putL n = [] := by
  unfold putL
  rcases h with h | h
  · rw [if_pos h]
  · rw [if_neg (by omega), if_pos h]
theorem strOf_nil : strOfNums [] = (⟨#[]⟩ : ByteArray) := rfl
theorem put_eq (n : Int) (k : Nat) (hk : 6 ≤ k) : leb_Put.f k n = some (strOfNums (putL n)) := by
  unfold leb_Put.f leb_Size.f
  by_cases c0 : n < 0
  · rw [if_pos c0, putL_none (.inl c0)]
    simp only [Option.bind_some]
    rw [if_pos (by decide +kernel), strOf_nil]
  rw [if_neg c0]
  by_cases c1 : n > 4294967295
  · rw [if_pos c1, putL_none (.inr c1)]
    simp only [Option.bind_some]
    rw [if_pos (by decide +kernel), strOf_nil]
  rw [if_neg c1, more_eq n (by omega) (by omega) k hk]
  simp only [Option.bind_some]
  unfold putL
  rw [if_neg c0, if_neg c1]
  obtain ⟨m, rfl⟩ : ∃ m, k = m + 6 := ⟨k - 6, by omega⟩
  unfold mo
  by_cases c : n < 248
  · rw [if_pos c, if_pos c, if_neg (by decide +kernel), if_pos (by decide +kernel), show n % 256 = n by omega]
  rw [if_neg c, if_neg c]
  by_cases c : n < 256
  · rw [if_pos c, if_pos c]
    rw [show wrap64 (wrap64 (1 + 1) - 1) = 1 by decide +kernel, if_neg (by decide +kernel), if_neg (by decide +kernel), if_pos (by decide +kernel), if_pos (by decide +kernel)]
    simp only [leb_Put.l0, show wrap64 (1 - 1) = 0 by decide +kernel, show wrap64 (1 + 1) = 2 by decide +kernel, show wrap64 (247 + 1) = 248 by decide +kernel]
    simp [List.replicate, show n % 256 = n by omega]
  rw [if_neg c, if_neg c]
  by_cases c : n < 65536
  · rw [if_pos c, if_pos c]
    rw [show wrap64 (wrap64 (1 + 2) - 1) = 2 by decide +kernel, if_neg (by decide +kernel), if_neg (by decide +kernel), if_pos (by decide +kernel), if_pos (by decide +kernel)]
    simp only [leb_Put.l0, show wrap64 (1 - 1) = 0 by decide +kernel, show wrap64 (2 - 1) = 1 by decide +kernel, show wrap64 (1 + 2) = 3 by decide +kernel, show wrap64 (247 + 2) = 249 by decide +kernel]
    simp [List.replicate, show n / 256 % 256 = n / 256 by omega]
  rw [if_neg c, if_neg c]
  by_cases c : n < 16777216
  · rw [if_pos c, if_pos c]
    rw [show wrap64 (wrap64 (1 + 3) - 1) = 3 by decide +kernel, if_neg (by decide +kernel), if_neg (by decide +kernel), if_pos (by decide +kernel), if_pos (by decide +kernel)]
    simp only [leb_Put.l0, show wrap64 (1 - 1) = 0 by decide +kernel, show wrap64 (2 - 1) = 1 by decide +kernel, show wrap64 (3 - 1) = 2 by decide +kernel, show wrap64 (1 + 3) = 4 by decide +kernel, show wrap64 (247 + 3) = 250 by decide +kernel]
    simp [List.replicate, show n / 256 / 256 % 256 = n / 65536 by omega]
  rw [if_neg c, if_neg c]
  rw [show wrap64 (wrap64 (1 + 4) - 1) = 4 by decide +kernel, if_neg (by decide +kernel), if_neg (by decide +kernel), if_pos (by decide +kernel), if_pos (by decide +kernel)]
  simp only [leb_Put.l0, show wrap64 (1 - 1) = 0 by decide +kernel, show wrap64 (2 - 1) = 1 by decide +kernel, show wrap64 (3 - 1) = 2 by decide +kernel, show wrap64 (4 - 1) = 3 by decide +kernel, show wrap64 (1 + 4) = 5 by decide +kernel, show wrap64 (247 + 4) = 251 by decide +kernel]
  simp [List.replicate, show n / 256 / 256 / 256 % 256 = n / 16777216 by omega, show n / 256 / 256 % 256 = n / 65536 % 256 by omega]
/-- all are bytes -/
theorem putL_bytes (n : Int) : ∀ x ∈ putL n, 0 ≤ x ∧ x < 256 := by
  unfold putL
  intro x hx
  repeat' split at hx
  all_goals simp at hx
  all_goals omega
theorem strOf_toList (l : List Int) : (strOfNums l).toList = l.map fun n => UInt8.ofNat n.toNat := by
  simp [strOfNums]
theorem strOf_append (a b : List Int) : strOfNums a ++ strOfNums b = strOfNums (a ++ b) := by
  apply ByteArray.ext
  simp [strOfNums]
theorem strOf_size (a : List Int) : (strOfNums a).size = a.length := by simp [strOfNums, ByteArray.size]
/-! statements as bytes: what the program and the reference both tell -/
def kD (n : Int) : Bool := n == 1 || n == 2 || n == 3 || n == 5
def kS (n : Int) : Bool := decide (1 ≤ n) && decide (n ≤ 4)
def kR (n : Int) : Bool := n == 2 || n == 3
theorem kinds (n : Int) : (n = 0 ∨ n = 1 ∨ n = 2 ∨ n = 3 ∨ n = 4 ∨ n = 5) ∨ (n ≠ 0 ∧ n ≠ 1 ∧ n ≠ 2 ∧ n ≠ 3 ∧ n ≠ 4 ∧ n ≠ 5) := by omega
theorem of_eq (n : Int) (k : Nat) : stmt_of.f (k + 1) n = some (kD n && decide (0 ≤ n ∧ n ≤ 5), kS n && decide (0 ≤ n ∧ n ≤ 5), kR n && decide (0 ≤ n ∧ n ≤ 5), decide (0 ≤ n ∧ n ≤ 5)) := by
  unfold stmt_of.f
  rcases kinds n with (rfl | rfl | rfl | rfl | rfl | rfl) | ⟨h0, h1, h2, h3, h4, h5⟩
  all_goals simp [stmt_of.j0, kD, kS, kR, *]
  omega
theorem dst_eq (n : Int) : easementref18_Dst.f n = some (kD n) := by
  unfold easementref18_Dst.f kD
  rcases kinds n with (rfl | rfl | rfl | rfl | rfl | rfl) | ⟨h0, h1, h2, h3, h4, h5⟩ <;> simp [*]
theorem src_eq (n : Int) : easementref18_Src.f n = some (kS n) := by
  unfold easementref18_Src.f kS
  by_cases h : 1 ≤ n
  · rw [if_pos h]; simp [h]
  · rw [if_neg h]; simp [h]
theorem reg_eq (n : Int) : easementref18_Region.f n = some (kR n) := by
  unfold easementref18_Region.f kR
  by_cases h : n = 2 <;> simp [h]
/-- May a statement be: the fields of its kind alone? -/
def fm (n d q r : Int) (m : Bool) : Bool := decide (0 ≤ n ∧ n ≤ 5) && (kD n || d == 0) && (kS n || q == 0) && (kR n || (r == 0 && !m))
theorem beq0 (x : Int) : ((0 : Int) == x) = (x == 0) := by rw [Bool.eq_iff_iff, beq_iff_eq, beq_iff_eq]; exact ⟨Eq.symm, Eq.symm⟩
theorem form_eq (n d q r : Int) (m : Bool) (k : Nat) : ∃ u1 u2 u3, stmt_form.f (k + 2) n d q r m = some (u1, u2, u3, fm n d q r m) ∧ (fm n d q r m = true → u1 = kD n ∧ u2 = kS n ∧ u3 = kR n) := by
  unfold stmt_form.f
  rw [of_eq]
  rcases kinds n with (rfl | rfl | rfl | rfl | rfl | rfl) | ⟨h0, h1, h2, h3, h4, h5⟩
  · refine ⟨false, false, false, ?_, fun _ => by decide +kernel⟩
    simp [stmt_form.j0, kD, kS, kR, fm]
    cases m <;> simp [Bool.and_assoc, beq0]
  · refine ⟨true, true, false, ?_, fun _ => by decide +kernel⟩
    simp [stmt_form.j0, kD, kS, kR, fm]
    cases m <;> simp [Bool.and_assoc, beq0]
  · refine ⟨true, true, true, ?_, fun _ => by decide +kernel⟩
    simp [stmt_form.j0, kD, kS, kR, fm]
  · refine ⟨true, true, true, ?_, fun _ => by decide +kernel⟩
    simp [stmt_form.j0, kD, kS, kR, fm]
  · refine ⟨false, true, false, ?_, fun _ => by decide +kernel⟩
    simp [stmt_form.j0, kD, kS, kR, fm]
    cases m <;> simp [Bool.and_assoc, beq0]
  · refine ⟨true, false, false, ?_, fun _ => by decide +kernel⟩
    simp [stmt_form.j0, kD, kS, kR, fm]
    cases m <;> simp [Bool.and_assoc, beq0]
  · have hn : ¬ (0 ≤ n ∧ n ≤ 5) := by omega
    have e : fm n d q r m = false := by simp [fm, hn]
    rw [e]
    refine ⟨false, false, false, ?_, fun h => by simp at h⟩
    simp [stmt_form.j0, kD, kS, kR, hn, h1, h2, h3, h5]
/-- A statement's bytes, as numbers. -/
def putS (n d q r : Int) (m : Bool) : List Int := putL n ++ (if kD n = true then putL d else []) ++ (if kS n = true then putL q else []) ++ (if kR n = true then putL (if m = true then 2 * r + 1 else 2 * r) else [])
theorem putL_len (n : Int) : (putL n).length ≤ 5 := by
  unfold putL
  repeat' split
  all_goals simp
theorem sput_eq (n d q r : Int) (m : Bool) (hr0 : 0 ≤ r) (hr1 : r < 2147483648) (k : Nat) (hk : 12 ≤ k) :
    stmt_Put.f k n d q r m = some (if fm n d q r m = true then (strOfNums (putS n d q r m), 0) else (⟨#[]⟩, 3)) := by
  obtain ⟨k, rfl⟩ : ∃ j, k = j + 2 := ⟨k - 2, by omega⟩
  obtain ⟨u1, u2, u3, hf, hu⟩ := form_eq n d q r m k
  unfold stmt_Put.f
  rw [hf]
  simp only [Option.bind_some]
  cases hfm : fm n d q r m with
  | false => simp
  | true =>
    obtain ⟨rfl, rfl, rfl⟩ := hu hfm
    have hn := putL_len n
    have hd := putL_len d
    have hq := putL_len q
    have hx : wrap64 (wrap64 (2 * r) + 1) = 2 * r + 1 := by rw [w64 (2 * r) (by omega) (by omega), w64 _ (by omega) (by omega)]
    have hy : wrap64 (2 * r) = 2 * r := w64 _ (by omega) (by omega)
    have hz : wrap64 (2 * r + 1) = 2 * r + 1 := w64 _ (by omega) (by omega)
    have l1 := putL_len (2 * r + 1)
    have l0 := putL_len (2 * r)
    have P := fun x => put_eq x (k + 2) (by omega)
    have P1 := fun x => put_eq x (k + 1) (by omega)
    have P0 := fun x => put_eq x k (by omega)
    unfold putS
    simp only [P, P1, P0, Option.bind_some, strOf_append, strOf_size, stmt_Put.j0, stmt_Put.j1, hx, hy, hz]
    cases kD n <;> cases kS n <;> cases kR n <;> cases m <;> simp [strOf_append, strOf_size, Nat.le_trans, List.append_assoc] <;> omega
theorem sawake_eq (k : Nat) (hk : 20 ≤ k) : easementlaw18_awake.f k = some true := by
  unfold easementlaw18_awake.f
  rw [sput_eq _ _ _ _ _ (by omega) (by omega) k (by omega), sput_eq _ _ _ _ _ (by omega) (by omega) k (by omega)]
  have e1 : fm 2 1 2 3 true = true := by decide +kernel
  have e2 : fm 4 1 0 0 false = false := by decide +kernel
  rw [e1, e2]
  simp only [Option.bind_some, if_true, strOf_toList]
  decide +kernel
theorem rform_eq (n d q r : Int) (m : Bool) : easementref18_Form.f n d q r m = some (fm n d q r m) := by
  unfold easementref18_Form.f
  simp only [dst_eq, src_eq, reg_eq, Option.bind_some]
  by_cases h0 : 0 ≤ n
  · by_cases h5 : n ≤ 5
    · rw [if_pos h0, if_pos h5]
      have e : decide (0 ≤ n ∧ n ≤ 5) = true := decide_eq_true ⟨h0, h5⟩
      unfold fm
      rw [e]
      cases kD n <;> cases kS n <;> cases kR n <;> cases m <;> by_cases hd : d = 0 <;> by_cases hq : q = 0 <;> by_cases hr : r = 0 <;> simp [hd, hq, hr]
    · rw [if_pos h0, if_neg h5]
      simp [fm, h5]
  · rw [if_neg h0]
    simp [fm, h0]
/-! what types need: both sides -/
def dc (n : S129) : S128 := ⟨n.f0, n.f1, n.f2, n.f3, n.f4⟩
theorem rdS_eq {l : List S115} {i : Nat} (h : i < l.length) : rd_T115 l (i : Int) = l[i] := by
  unfold rd_T115; simp [List.getD_eq_getElem?_getD, List.getElem?_eq_getElem h]
theorem rdN_eq {l : List S129} {i : Nat} (h : i < l.length) : rd_T129 l (i : Int) = l[i] := by
  unfold rd_T129; simp [List.getD_eq_getElem?_getD, List.getElem?_eq_getElem h]
theorem rdM_eq {l : List S128} {i : Nat} (h : i < l.length) : rd_T128 l (i : Int) = l[i] := by
  unfold rd_T128; simp [List.getD_eq_getElem?_getD, List.getElem?_eq_getElem h]
theorem doc_loop (l : List S129) (hl : l.length ≤ 100000) : ∀ (d i k : Nat) (acc : List S128), i + d = l.length → d + 1 ≤ k → acc.length = i → easementlaw16_Doc.l0 k l acc (i : Int) = some (acc ++ (l.drop i).map dc)
  | 0, i, k, acc, hd, hk, ha => by
    obtain ⟨k, rfl⟩ : ∃ m, k = m + 1 := ⟨k - 1, by omega⟩
    simp only [easementlaw16_Doc.l0]
    rw [if_neg (by omega), List.drop_eq_nil_of_le (by omega)]
    simp
  | d + 1, i, k, acc, hd, hk, ha => by
    obtain ⟨k, rfl⟩ : ∃ m, k = m + 1 := ⟨k - 1, by omega⟩
    simp only [easementlaw16_Doc.l0]
    have hi : i < l.length := by omega
    have e1 : (i : Int) + 1 = ((i + 1 : Nat) : Int) := by omega
    rw [if_pos (by omega), if_pos (by omega), if_pos (by omega), rdN_eq hi, w64 _ (by omega) (by omega), e1, doc_loop l hl d (i + 1) k _ (by omega) (by omega) (by rw [List.length_append]; simp [ha]), List.drop_eq_getElem_cons hi, List.map_cons, List.append_assoc]
    rfl
theorem doc_eq (l : List S129) (hl : l.length ≤ 100000) (k : Nat) (hk : l.length + 1 ≤ k) : easementlaw16_Doc.f k l = some (l.map dc) := by
  unfold easementlaw16_Doc.f
  exact doc_loop l hl l.length 0 k [] (by omega) (by omega) rfl
theorem nsame_loop (l : List S128) (hl : l.length ≤ 100000) : ∀ (d i k : Nat), i + d = l.length → d + 1 ≤ k → easementref16_Same.l0 k l l (i : Int) = some true
  | 0, i, k, hd, hk => by
    obtain ⟨k, rfl⟩ : ∃ m, k = m + 1 := ⟨k - 1, by omega⟩
    simp only [easementref16_Same.l0]
    rw [if_neg (by omega)]
  | d + 1, i, k, hd, hk => by
    obtain ⟨k, rfl⟩ : ∃ m, k = m + 1 := ⟨k - 1, by omega⟩
    simp only [easementref16_Same.l0]
    have e1 : (i : Int) + 1 = ((i + 1 : Nat) : Int) := by omega
    rw [if_pos (by omega), if_pos (by omega), if_pos (by omega), if_neg (by simp), w64 _ (by omega) (by omega), e1]
    exact nsame_loop l hl d (i + 1) k (by omega) (by omega)
theorem nsame_self (l : List S128) (hl : l.length ≤ 100000) (k : Nat) (hk : l.length + 1 ≤ k) : easementref16_Same.f k l l = some true := by
  unfold easementref16_Same.f
  rw [if_pos rfl]
  exact nsame_loop l hl l.length 0 k (by omega) (by omega)
theorem rshape_loop (a b : List S115) (h : a.length = b.length) (hl : a.length ≤ 100000) : ∀ (d i k : Nat), i + d = a.length → d + 1 ≤ k → easementref15_Shape.l0 k (i : Int) a b = some (decide ((a.drop i).map (fun x => x.f1) = (b.drop i).map (fun x => x.f1)))
  | 0, i, k, hd, hk => by
    obtain ⟨k, rfl⟩ : ∃ m, k = m + 1 := ⟨k - 1, by omega⟩
    simp only [easementref15_Shape.l0]
    rw [if_neg (by omega), List.drop_eq_nil_of_le (by omega), List.drop_eq_nil_of_le (by omega)]
    simp
  | d + 1, i, k, hd, hk => by
    obtain ⟨k, rfl⟩ : ∃ m, k = m + 1 := ⟨k - 1, by omega⟩
    simp only [easementref15_Shape.l0]
    have hi : i < a.length := by omega
    have hj : i < b.length := by omega
    have e1 : (i : Int) + 1 = ((i + 1 : Nat) : Int) := by omega
    rw [if_pos (by omega), if_pos (by omega), if_pos (by omega), rdS_eq hi, rdS_eq hj, w64 _ (by omega) (by omega), e1, rshape_loop a b h hl d (i + 1) k (by omega) (by omega), List.drop_eq_getElem_cons hi, List.drop_eq_getElem_cons hj, List.map_cons, List.map_cons]
    by_cases c : a[i].f1 = b[i].f1
    · rw [if_neg (by simp [c])]
      congr 1
      apply decide_eq_decide.2
      rw [List.cons.injEq]
      exact ⟨fun h => ⟨c, h⟩, fun h => h.2⟩
    · rw [if_pos (by simpa using c), decide_eq_false]
      intro h
      rw [List.cons.injEq] at h
      exact c h.1
theorem rshape_eq (a b : List S115) (hl : a.length ≤ 100000) (k : Nat) (hk : a.length + 1 ≤ k) : easementref15_Shape.f k a b = some (shp a b) := by
  unfold easementref15_Shape.f
  by_cases h : a.length = b.length
  · rw [if_pos (by omega)]
    exact rshape_loop a b h hl a.length 0 k (by omega) (by omega)
  · rw [if_neg (by omega), shp_len h]
theorem slx_len (kind from_ : Int) : ∀ (a b : List S115) (i : Int), (slx kind from_ a b i).length ≤ 2 * a.length
  | [], _, _ => by simp [slx]
  | _ :: _, [], _ => by simp [slx]
  | s :: a, t :: b, i => by
    have := slx_len kind from_ a b (i + 1)
    simp only [slx, List.length_cons, List.length_append]
    split <;> simp <;> omega
theorem rslots_loop (a b : List S115) (kind from_ : Int) (h : a.length = b.length) (hl : a.length ≤ 100000) : ∀ (d i k : Nat) (acc : List S128), i + d = a.length → d + 1 ≤ k → acc.length ≤ 1000 + 2 * i → easementref16_slots.l0 k acc a b kind from_ (i : Int) = some (acc ++ (slx kind from_ (a.drop i) (b.drop i) (i : Int)).map dc)
  | 0, i, k, acc, hd, hk, ha => by
    obtain ⟨k, rfl⟩ : ∃ m, k = m + 1 := ⟨k - 1, by omega⟩
    simp only [easementref16_slots.l0]
    rw [if_neg (by omega), List.drop_eq_nil_of_le (by omega)]
    simp [slx]
  | d + 1, i, k, acc, hd, hk, ha => by
    obtain ⟨k, rfl⟩ : ∃ m, k = m + 1 := ⟨k - 1, by omega⟩
    simp only [easementref16_slots.l0]
    have hi : i < a.length := by omega
    have hj : i < b.length := by omega
    have e1 : (i : Int) + 1 = ((i + 1 : Nat) : Int) := by omega
    rw [if_pos (by omega), if_pos (by omega), if_pos (by omega), if_pos (by omega), rdS_eq hi, rdS_eq hj, w64 ((i : Int) + 1) (by omega) (by omega), e1]
    simp only [Option.bind_some]
    have hal : ∀ z : S128, (acc ++ [z]).length = acc.length + 1 := by intro z; simp
    rw [List.drop_eq_getElem_cons hi, List.drop_eq_getElem_cons hj]
    simp only [slx]
    by_cases c : b[i].f1 = true
    · rw [if_pos c, if_pos (by rw [hal]; omega), if_pos c, rslots_loop a b kind from_ h hl d (i + 1) k _ (by omega) (by omega) (by rw [List.length_append, hal]; simp; omega), e1]
      simp [dc, List.append_assoc]
    · rw [if_neg c, if_neg c, rslots_loop a b kind from_ h hl d (i + 1) k _ (by omega) (by omega) (by rw [hal]; omega), e1]
      simp [dc, List.append_assoc]
theorem rslots_eq (acc : List S128) (a b : List S115) (kind from_ : Int) (h : a.length = b.length) (hl : a.length ≤ 100000) (k : Nat) (hk : a.length + 1 ≤ k) (ha : acc.length ≤ 1000) :
    easementref16_slots.f k acc a b kind from_ = some (acc ++ (slx kind from_ a b 0).map dc) := by
  unfold easementref16_slots.f
  have := rslots_loop a b kind from_ h hl a.length 0 k acc (by omega) (by omega) (by omega)
  simpa using this
theorem rref_loop (a : List S115) (mut_ : Bool) (hl : a.length ≤ 100000) : ∀ (d i k : Nat) (acc : List S115), i + d = a.length → d + 1 ≤ k → acc.length ≤ 1000 + i → easementref15_Ref.l0 k mut_ acc (i : Int) a = some (acc ++ (a.drop i).map (rfx mut_))
  | 0, i, k, acc, hd, hk, ha => by
    obtain ⟨k, rfl⟩ : ∃ m, k = m + 1 := ⟨k - 1, by omega⟩
    simp only [easementref15_Ref.l0]
    rw [if_neg (by omega), List.drop_eq_nil_of_le (by omega)]
    simp
  | d + 1, i, k, acc, hd, hk, ha => by
    obtain ⟨k, rfl⟩ : ∃ m, k = m + 1 := ⟨k - 1, by omega⟩
    simp only [easementref15_Ref.l0]
    have hi : i < a.length := by omega
    have e1 : (i : Int) + 1 = ((i + 1 : Nat) : Int) := by omega
    have hal : ∀ z : S115, (acc ++ [z]).length = acc.length + 1 := by intro z; simp
    rw [if_pos (by omega), if_pos (by omega), rdS_eq hi, w64 ((i : Int) + 1) (by omega) (by omega), e1, List.drop_eq_getElem_cons hi, List.map_cons]
    by_cases c : a[i].f1 = true
    · rw [if_pos c, if_pos (by omega), rref_loop a mut_ hl d (i + 1) k _ (by omega) (by omega) (by rw [hal]; omega), List.append_assoc]
      simp [rfx, c]
    · rw [if_neg c, if_pos (by omega), rref_loop a mut_ hl d (i + 1) k _ (by omega) (by omega) (by rw [hal]; omega), List.append_assoc]
      simp [rfx, c]
theorem rref_eq (a : List S115) (region : Int) (mut_ : Bool) (hl : a.length ≤ 100000) (k : Nat) (hk : a.length + 1 ≤ k) : easementref15_Ref.f k a region mut_ = some ([⟨region, false⟩] ++ a.map (rfx mut_)) := by
  unfold easementref15_Ref.f
  have := rref_loop a mut_ hl a.length 0 k [⟨region, false⟩] (by omega) (by omega) (by simp)
  simpa using this
/-- the three, each as one answer -/
def flw (a b : List S115) (kind from_ : Int) : List S129 × Int := if shp a b = true then (slx kind from_ a b 0, 0) else ([], 8)
def lon (a b : List S115) (region : Int) (mut_ : Bool) : List S129 × Int := if shp ([⟨region, false⟩] ++ a.map (rfx mut_)) b = true then ([⟨region, (rd_T115 b 0).f0, 2, 0, false⟩] ++ slx 1 1 a (b.drop 1) 0, 0) else ([], 8)
def agn (a b : List S115) (region : Int) (mut_ : Bool) : List S129 × Int := if drf a = true ∧ shp a b = true then (if (mut_ && !(a.drop 1).all (fun s => s.f1)) = true then ([], 8) else ([⟨(rd_T115 a 0).f0, region, 3, 0, false⟩] ++ [⟨region, (rd_T115 b 0).f0, 2, 0, false⟩] ++ slx 1 1 (a.drop 1) (b.drop 1) 0, 0)) else ([], 8)
def dcp (p : List S129 × Int) : List S128 × Int := (p.1.map dc, p.2)
theorem flow_eq (a b : List S115) (kind from_ : Int) (hl : a.length ≤ 100000) : relate_Flow.f a b kind from_ = some (flw a b kind from_) := by
  unfold relate_Flow.f flw
  split
  · rw [if_pos (by omega)]
  · rfl
theorem rflow_eq (a b : List S115) (kind from_ : Int) (hl : a.length ≤ 100000) (k : Nat) (hk : a.length + 1 ≤ k) : easementref16_Flow.f k a b kind from_ = some (dcp (flw a b kind from_)) := by
  unfold easementref16_Flow.f flw dcp
  rw [rshape_eq a b hl k hk]
  simp only [Option.bind_some]
  by_cases c : shp a b = true
  · rw [if_pos c, if_pos c, rslots_eq [] a b kind from_ (shp_eq c) hl k hk (by simp)]
    simp
  · rw [if_neg c, if_neg c]
    rfl
theorem loan_len {a b : List S115} {region : Int} {mut_ : Bool} (c : shp ([⟨region, false⟩] ++ a.map (rfx mut_)) b = true) : b.length = a.length + 1 := by
  have := shp_eq c
  simp at this
  omega
theorem loan_eq (a b : List S115) (region : Int) (mut_ : Bool) (hl : a.length ≤ 100000) : relate_Loan.f a b region mut_ = some (lon a b region mut_) := by
  unfold relate_Loan.f row_Ref.f relate_Loan.fin lon
  rw [if_pos (by omega)]
  simp only [Option.bind_some]
  by_cases c : shp ([⟨region, false⟩] ++ a.map (rfx mut_)) b = true
  · have := loan_len c
    rw [if_pos c, if_pos c, if_pos (by omega), if_pos (by rw [List.length_drop]; omega), if_pos (by omega)]
  · rw [if_neg c, if_neg c]
theorem rloan_eq (a b : List S115) (region : Int) (mut_ : Bool) (hl : a.length ≤ 10000) (k : Nat) (hk : a.length + 2 ≤ k) : easementref16_Loan.f k a b region mut_ = some (dcp (lon a b region mut_)) := by
  unfold easementref16_Loan.f lon dcp
  rw [rref_eq a region mut_ (by omega) k (by omega)]
  simp only [Option.bind_some]
  rw [rshape_eq _ b (by simp; omega) k (by simp; omega)]
  simp only [Option.bind_some]
  by_cases c : shp ([⟨region, false⟩] ++ a.map (rfx mut_)) b = true
  · have := loan_len c
    rw [if_pos c, if_pos c, if_pos (by omega), if_pos (by omega), rslots_eq _ a (b.drop 1) 1 1 (by rw [List.length_drop]; omega) (by omega) k (by omega) (by simp)]
    simp [dc]
  · rw [if_neg c, if_neg c]
    rfl
theorem shp_first {a b : List S115} (h : shp a b = true) : drf b = drf a := by
  cases a with
  | nil =>
    cases b with
    | nil => rfl
    | cons t b => have := shp_eq h; simp at this
  | cons s a =>
    cases b with
    | nil => have := shp_eq h; simp at this
    | cons t b =>
      unfold shp at h
      have := of_decide_eq_true h
      simp only [List.map_cons, List.cons.injEq] at this
      simp [drf, this.1]
theorem again_eq (a b : List S115) (region : Int) (mut_ : Bool) (hl : a.length ≤ 100000) (hb : b.length ≤ 100000) : relate_Again.f a b region mut_ = some (agn a b region mut_) := by
  unfold relate_Again.f relate_Again.fin agn
  rw [if_pos (by omega), if_pos (by omega)]
  by_cases c1 : drf a = true
  · rw [if_pos c1]
    by_cases c3 : shp a b = true
    · have c2 : drf b = true := by rw [shp_first c3]; exact c1
      have c4 : drf a = true ∧ shp a b = true := ⟨c1, c3⟩
      rw [if_pos c2, if_pos c3, if_pos c4]
      split <;> rfl
    · have c4 : ¬ (drf a = true ∧ shp a b = true) := fun h => c3 h.2
      rw [if_neg c3, if_neg c4]
      split <;> rfl
  · rw [if_neg c1, if_neg (fun h => c1 h.1)]
theorem ragain_loop (a b : List S115) (region : Int) (mut_ : Bool) (h : a.length = b.length) (h0 : 0 < a.length) (hl : a.length ≤ 1000) : ∀ (d i k : Nat), i + d = a.length → 1 ≤ i → a.length + d + 3 ≤ k →
    easementref16_Again.l0 k region mut_ (i : Int) a b = some (dcp (if (mut_ && !(a.drop i).all (fun s => s.f1)) = true then ([], 8) else ([⟨(rd_T115 a 0).f0, region, 3, 0, false⟩] ++ [⟨region, (rd_T115 b 0).f0, 2, 0, false⟩] ++ slx 1 1 (a.drop 1) (b.drop 1) 0, 0)))
  | 0, i, k, hd, hi, hk => by
    obtain ⟨k, rfl⟩ : ∃ m, k = m + 1 := ⟨k - 1, by omega⟩
    simp only [easementref16_Again.l0]
    rw [if_neg (by omega), if_pos (by omega), if_pos (by omega), if_pos (by omega), if_pos (by omega), rslots_eq _ (a.drop 1) (b.drop 1) 1 1 (by rw [List.length_drop, List.length_drop]; omega) (by rw [List.length_drop]; omega) k (by rw [List.length_drop]; omega) (by simp), List.drop_eq_nil_of_le (show a.length ≤ i by omega)]
    simp [dcp, dc]
  | d + 1, i, k, hd, hi, hk => by
    obtain ⟨k, rfl⟩ : ∃ m, k = m + 1 := ⟨k - 1, by omega⟩
    simp only [easementref16_Again.l0]
    have hia : i < a.length := by omega
    have e1 : (i : Int) + 1 = ((i + 1 : Nat) : Int) := by omega
    have ih := ragain_loop a b region mut_ h h0 hl d (i + 1) k (by omega) (by omega) (by omega)
    rw [if_pos (by omega), w64 ((i : Int) + 1) (by omega) (by omega), e1, List.drop_eq_getElem_cons hia, List.all_cons]
    cases mut_ with
    | false =>
      rw [if_neg (by decide), ih]
      rfl
    | true =>
      rw [if_pos rfl, if_pos (by omega), rdS_eq hia]
      by_cases c : a[i].f1 = true
      · rw [if_pos c, ih, c]
        rfl
      · rw [if_neg c, Bool.eq_false_iff.mpr c]
        rfl
theorem ragain_eq (a b : List S115) (region : Int) (mut_ : Bool) (hl : a.length ≤ 1000) (k : Nat) (hk : 2 * a.length + 5 ≤ k) : easementref16_Again.f k a b region mut_ = some (dcp (agn a b region mut_)) := by
  obtain ⟨k, rfl⟩ : ∃ m, k = m + 1 := ⟨k - 1, by omega⟩
  unfold easementref16_Again.f agn
  cases a with
  | nil =>
    rw [if_pos (show ((([] : List S115).length : Nat) : Int) = 0 from rfl), if_neg (by simp [drf])]
    simp [easementref16_Again.j0, dcp]
  | cons s a =>
    rw [if_neg (by rw [List.length_cons]; omega), rshape_eq _ b (by omega) _ (by omega)]
    simp only [Option.bind_some]
    by_cases c : shp (s :: a) b = true
    · rw [if_pos c, if_pos (by rw [List.length_cons]; omega)]
      have e0 : rd_T115 (s :: a) 0 = s := rfl
      simp only [easementref16_Again.j0]
      rw [show (rd_T115 (s :: a) 0).f1 = s.f1 from rfl]
      by_cases c1 : s.f1 = true
      · rw [if_pos c1, if_neg (by simp [drf, c1])]
        rfl
      · have := ragain_loop (s :: a) b region mut_ (shp_eq c) (by simp) hl a.length 1 k (by simp; omega) (by omega) (by simp at hk ⊢; omega)
        rw [if_neg c1, if_pos ⟨by simpa [drf] using c1, c⟩]
        exact this
    · rw [if_neg c, if_neg (fun h => c h.2)]
      simp [easementref16_Again.j0, dcp]
/-! what statements need -/
theorem rdT_eq {l : List S44} {i : Nat} (h : i < l.length) : rd_T44 l (i : Int) = l[i] := by
  unfold rd_T44; simp [List.getD_eq_getElem?_getD, List.getElem?_eq_getElem h]
def fewT (l : List S44) : Bool := decide (l.length ≤ 20 ∧ ∀ t ∈ l, t.f0.length ≤ 20)
theorem few_loop (l : List S44) (hl : l.length ≤ 20) : ∀ (d i k : Nat), i + d = l.length → d + 1 ≤ k → easementlaw18_few.l0 k l (i : Int) = some (decide (∀ t ∈ l.drop i, t.f0.length ≤ 20))
  | 0, i, k, hd, hk => by
    obtain ⟨k, rfl⟩ : ∃ m, k = m + 1 := ⟨k - 1, by omega⟩
    simp only [easementlaw18_few.l0]
    rw [if_neg (by omega), List.drop_eq_nil_of_le (by omega)]
    simp
  | d + 1, i, k, hd, hk => by
    obtain ⟨k, rfl⟩ : ∃ m, k = m + 1 := ⟨k - 1, by omega⟩
    simp only [easementlaw18_few.l0]
    have hi : i < l.length := by omega
    have e1 : (i : Int) + 1 = ((i + 1 : Nat) : Int) := by omega
    rw [if_pos (by omega), if_pos (by omega), rdT_eq hi, w64 _ (by omega) (by omega), e1, few_loop l hl d (i + 1) k (by omega) (by omega), List.drop_eq_getElem_cons hi]
    unfold easementref15_Few.f
    simp only [Option.bind_some, decide_eq_true_eq]
    by_cases c : (l[i].f0.length : Int) ≤ 20
    · rw [if_pos c]
      congr 1
      apply decide_eq_decide.2
      constructor
      · intro h t ht
        rcases List.mem_cons.1 ht with rfl | ht
        · omega
        · exact h t ht
      · exact fun h t ht => h t (List.mem_cons_of_mem _ ht)
    · rw [if_neg c, decide_eq_false]
      intro h
      have := h l[i] (List.mem_cons_self ..)
      omega
theorem few_eq (l : List S44) (k : Nat) (hk : 30 ≤ k) : easementlaw18_few.f k l = some (fewT l) := by
  unfold easementlaw18_few.f fewT
  by_cases c : l.length ≤ 20
  · rw [if_neg (by omega)]
    have := few_loop l c l.length 0 k (by omega) (by omega)
    rw [List.drop_zero] at this
    rw [show (0 : Int) = ((0 : Nat) : Int) from rfl, this]
    congr 1
    apply decide_eq_decide.2
    exact ⟨fun h => ⟨c, h⟩, fun h => h.2⟩
  · rw [if_pos (by omega), decide_eq_false (fun h => c h.1)]
def nds (n d q r : Int) (m : Bool) (l : List S44) : List S129 × Int :=
  if n = 1 then flw (rd_T44 l q).f0 (rd_T44 l d).f0 1 0 else if n = 2 then lon (rd_T44 l q).f0 (rd_T44 l d).f0 r m else if n = 3 then agn (rd_T44 l q).f0 (rd_T44 l d).f0 r m else ([], 0)
theorem rd_few {l : List S44} (h : fewT l = true) (i : Int) : (rd_T44 l i).f0.length ≤ 20 := by
  obtain ⟨_, h2⟩ := of_decide_eq_true h
  unfold rd_T44
  rw [List.getD_eq_getElem?_getD]
  rcases Nat.lt_or_ge i.toNat l.length with hi | hi
  · rw [List.getElem?_eq_getElem hi]
    exact h2 _ (List.getElem_mem hi)
  · rw [List.getElem?_eq_none hi]
    simp [z44]
theorem nds_nil {n d q r : Int} {m : Bool} {l : List S44} (h : (nds n d q r m l).2 ≠ 0) : (nds n d q r m l).1 = [] := by
  unfold nds at h ⊢
  split at h
  · rename_i c; rw [if_pos c]; unfold flw at h ⊢; split at h
    · exact absurd rfl h
    · rename_i c2; rw [if_neg c2]
  rename_i c; rw [if_neg c]
  split at h
  · rename_i c; rw [if_pos c]; unfold lon at h ⊢; split at h
    · exact absurd rfl h
    · rename_i c2; rw [if_neg c2]
  rename_i c; rw [if_neg c]
  split at h
  · rename_i c; rw [if_pos c]; unfold agn at h ⊢; split at h
    · rename_i c2; rw [if_pos c2]; split at h
      · rename_i c3; rw [if_pos c3]
      · exact absurd rfl h
    · rename_i c2; rw [if_neg c2]
  · exact absurd rfl h
theorem nds_len {n d q r : Int} {m : Bool} {l : List S44} (h : fewT l = true) : (nds n d q r m l).1.length ≤ 60 := by
  have h1 := rd_few h q
  have e1 := slx_len 1 0 (rd_T44 l q).f0 (rd_T44 l d).f0 0
  have e2 := slx_len 1 1 (rd_T44 l q).f0 ((rd_T44 l d).f0.drop 1) 0
  have e3 := slx_len 1 1 ((rd_T44 l q).f0.drop 1) ((rd_T44 l d).f0.drop 1) 0
  rw [List.length_drop] at e3
  unfold nds flw lon agn
  split
  · split <;> simp only [List.length_nil] <;> omega
  split
  · split <;> simp only [List.length_append, List.length_cons, List.length_nil] <;> omega
  split
  · split
    · split <;> simp only [List.length_append, List.length_cons, List.length_nil] <;> omega
    · simp only [List.length_nil]; omega
  · simp only [List.length_nil]; omega
/-- in range -/
def rng (n d q r : Int) (len : Int) (regions : Int) : Bool := (kD n && (decide (d < 0) || decide (d ≥ len))) || (kS n && (decide (q < 0) || decide (q ≥ len))) || (kR n && (decide (r < 0) || decide (r ≥ regions)))
theorem needs_eq (n d q r : Int) (m : Bool) (l : List S44) (hl : fewT l = true) (hd : kD n = true → 0 ≤ d ∧ d < l.length) (hq : kS n = true → 0 ≤ q ∧ q < l.length) : stmt_needs.f n d q r m l = some (nds n d q r m l) := by
  have h1 := rd_few hl q
  have h2 := rd_few hl d
  unfold stmt_needs.f nds
  by_cases c1 : n = 1
  · subst c1
    have a := hd (by decide)
    have b := hq (by decide)
    rw [if_pos rfl, if_pos rfl, if_pos b.1, if_pos b.2, if_pos a.1, if_pos a.2, flow_eq _ _ _ _ (by omega)]
    rfl
  rw [if_neg c1, if_neg c1]
  by_cases c2 : n = 2
  · subst c2
    have a := hd (by decide)
    have b := hq (by decide)
    rw [if_pos rfl, if_pos rfl, if_pos b.1, if_pos b.2, if_pos a.1, if_pos a.2, loan_eq _ _ _ _ (by omega)]
    rfl
  rw [if_neg c2, if_neg c2]
  by_cases c3 : n = 3
  · subst c3
    have a := hd (by decide)
    have b := hq (by decide)
    rw [if_pos rfl, if_pos rfl, if_pos b.1, if_pos b.2, if_pos a.1, if_pos a.2, again_eq _ _ _ _ (by omega) (by omega)]
    rfl
  rw [if_neg c3, if_neg c3]
def chk (n d q r : Int) (m : Bool) (l : List S44) (regions : Int) : Int := if fm n d q r m = true then (if rng n d q r l.length regions = true then 7 else (nds n d q r m l).2) else 3
theorem rng_not {n d q r len regions : Int} (h : rng n d q r len regions = false) : (kD n = true → 0 ≤ d ∧ d < len) ∧ (kS n = true → 0 ≤ q ∧ q < len) := by
  unfold rng at h
  simp only [Bool.or_eq_false_iff, Bool.and_eq_false_iff, decide_eq_false_iff_not] at h
  obtain ⟨⟨h1, h2⟩, _⟩ := h
  constructor
  · intro hk
    rcases h1 with h1 | h1
    · rw [hk] at h1; exact absurd h1 (by decide)
    · omega
  · intro hk
    rcases h2 with h2 | h2
    · rw [hk] at h2; exact absurd h2 (by decide)
    · omega
theorem arg3 {α : Type} (f : Bool → α) (b : Bool) (p q : Prop) [Decidable p] [Decidable q] : (if b = true then (if p then f true else f (decide q)) else f false) = f (b && (decide p || decide q)) := by
  cases b <;> by_cases hp : p <;> by_cases hq : q <;> simp [hp, hq]
theorem rsub {α : Type} (R : Bool) (p5 p6 : Prop) [Decidable p5] [Decidable p6] (J : Bool → α) : (if R = true then (if p5 then J true else J (decide p6)) else J false) = J (R && (decide p5 || decide p6)) := arg3 J R p5 p6
theorem qsub {α : Type} (Q : Bool) (p3 p4 : Prop) [Decidable p3] [Decidable p4] (J : Bool → α) (c : Bool) : (if Q = true then (if p3 then J true else (if p4 then J true else J c)) else J c) = J ((Q && (decide p3 || decide p4)) || c) := by
  cases Q <;> by_cases hp : p3 <;> by_cases hq : p4 <;> simp [hp, hq]
theorem check_eq (n d q r : Int) (m : Bool) (l : List S44) (regions : Int) (hl : fewT l = true) (k : Nat) (hk : 10 ≤ k) : stmt_Check.f k n d q r m l regions = some (chk n d q r m l regions) := by
  obtain ⟨k, rfl⟩ : ∃ j, k = j + 2 := ⟨k - 2, by omega⟩
  obtain ⟨u1, u2, u3, hf, hu⟩ := form_eq n d q r m k
  unfold stmt_Check.f chk
  rw [hf]
  simp only [Option.bind_some]
  cases hfm : fm n d q r m with
  | false => simp
  | true =>
    obtain ⟨rfl, rfl, rfl⟩ := hu hfm
    simp only [if_true]
    have e1 := arg3 (fun b => stmt_Check.j0 (k + 2) l regions b n d q r m (kD n) (kS n) (kR n)) (kD n) (d < 0) (d ≥ (l.length : Int))
    refine e1.trans ?_
    try dsimp only
    simp only [stmt_Check.j0]
    unfold rng
    cases hD : (kD n && (decide (d < 0) || decide (d ≥ (l.length : Int)))) with
    | true => simp
    | false =>
      rw [if_neg (by decide), Bool.false_or]
      have e2 := arg3 (fun b => stmt_Check.j1 (k + 1) l regions b n d q r m (kD n) (kS n) (kR n)) (kS n) (q < 0) (q ≥ (l.length : Int))
      refine e2.trans ?_
      try dsimp only
      simp only [stmt_Check.j1]
      cases hQ : (kS n && (decide (q < 0) || decide (q ≥ (l.length : Int)))) with
      | true => simp
      | false =>
        have a1 : kD n = true → 0 ≤ d ∧ d < l.length := by
          intro hk
          rw [hk, Bool.true_and, Bool.or_eq_false_iff, decide_eq_false_iff_not, decide_eq_false_iff_not] at hD
          omega
        have a2 : kS n = true → 0 ≤ q ∧ q < l.length := by
          intro hk
          rw [hk, Bool.true_and, Bool.or_eq_false_iff, decide_eq_false_iff_not, decide_eq_false_iff_not] at hQ
          omega
        rw [if_neg (by decide), Bool.false_or, needs_eq n d q r m l hl a1 a2]
        cases kR n <;> by_cases h1 : r < 0 <;> by_cases h2 : r ≥ regions <;> simp [h1, h2]
theorem rneeds_j (n d q r : Int) (m : Bool) (l : List S44) (hl : fewT l = true) (k : Nat) (hk : 60 ≤ k) (hd : kD n = true → 0 ≤ d ∧ d < l.length) (hq : kS n = true → 0 ≤ q ∧ q < l.length) : easementref18_Needs.j0 (k + 1) l false n d q r m = some (dcp (nds n d q r m l)) := by
  have h1 := rd_few hl q
  have h2 := rd_few hl d
  unfold nds
  simp only [easementref18_Needs.j0]
  rw [if_neg (by decide)]
  by_cases c1 : n = 1
  · subst c1
    have a := hd (by decide)
    have b := hq (by decide)
    rw [if_pos rfl, if_pos rfl, if_pos b.1, if_pos b.2, if_pos a.1, if_pos a.2, rflow_eq _ _ _ _ (by omega) k (by omega)]
    rfl
  rw [if_neg c1, if_neg c1]
  by_cases c2 : n = 2
  · subst c2
    have a := hd (by decide)
    have b := hq (by decide)
    rw [if_pos rfl, if_pos rfl, if_pos b.1, if_pos b.2, if_pos a.1, if_pos a.2, rloan_eq _ _ _ _ (by omega) k (by omega)]
    rfl
  rw [if_neg c2, if_neg c2]
  by_cases c3 : n = 3
  · subst c3
    have a := hd (by decide)
    have b := hq (by decide)
    rw [if_pos rfl, if_pos rfl, if_pos b.1, if_pos b.2, if_pos a.1, if_pos a.2, ragain_eq _ _ _ _ (by omega) k (by omega)]
    rfl
  rw [if_neg c3, if_neg c3]
  rfl
theorem rneeds_no (n d q r : Int) (m : Bool) (l : List S44) (k : Nat) : easementref18_Needs.j0 (k + 1) l true n d q r m = some ([], 7) := by
  simp only [easementref18_Needs.j0]
  rw [if_pos trivial]
theorem rneeds_eq (n d q r : Int) (m : Bool) (l : List S44) (regions : Int) (hl : fewT l = true) (k : Nat) (hk : 62 ≤ k) :
    easementref18_Needs.f k n d q r m l regions = some (if fm n d q r m = true then (if rng n d q r l.length regions = true then ([], 7) else dcp (nds n d q r m l)) else ([], 3)) := by
  obtain ⟨k, rfl⟩ : ∃ j, k = j + 1 := ⟨k - 1, by omega⟩
  unfold easementref18_Needs.f
  rw [rform_eq]
  simp only [Option.bind_some, dst_eq, src_eq, reg_eq]
  cases hfm : fm n d q r m with
  | false => simp
  | true =>
    simp only [if_true]
    have r1 := rsub (kR n) (r < 0) (r ≥ regions) (fun b => easementref18_Needs.j0 (k + 1) l b n d q r m)
    try dsimp only at r1
    rw [r1]
    have r2 := qsub (kS n) (q < 0) (q ≥ (l.length : Int)) (fun b => easementref18_Needs.j0 (k + 1) l b n d q r m) (kR n && (decide (r < 0) || decide (r ≥ regions)))
    try dsimp only at r2
    rw [r2]
    have r3 := qsub (kD n) (d < 0) (d ≥ (l.length : Int)) (fun b => easementref18_Needs.j0 (k + 1) l b n d q r m) ((kS n && (decide (q < 0) || decide (q ≥ (l.length : Int)))) || (kR n && (decide (r < 0) || decide (r ≥ regions))))
    try dsimp only at r3
    rw [r3, ← Bool.or_assoc]
    show easementref18_Needs.j0 (k + 1) l (rng n d q r l.length regions) n d q r m = _
    cases hr : rng n d q r l.length regions with
    | true => rw [rneeds_no]; rfl
    | false =>
      obtain ⟨a1, a2⟩ := rng_not hr
      rw [rneeds_j n d q r m l hl k (by omega) a1 a2]
      rfl
theorem StmtNeeds : easementlaw18_StmtNeeds.Pure := by
  intro n d q r m l regions _ _ _
  refine ⟨200, ?_⟩
  unfold easementlaw18_StmtNeeds.f
  rw [few_eq l 200 (by omega), Option.bind_some]
  cases hl : fewT l with
  | false =>
    rw [if_neg (by decide), sawake_eq 200 (by omega)]
    rfl
  | true =>
    rw [if_pos rfl]
    have hle := @nds_len n d q r m l hl
    have hN : stmt_Needs.f 200 n d q r m l regions = some (if chk n d q r m l regions = 0 then nds n d q r m l else ([], chk n d q r m l regions)) := by
      unfold stmt_Needs.f
      rw [check_eq n d q r m l regions hl 200 (by omega), Option.bind_some]
      by_cases c : chk n d q r m l regions = 0
      · rw [if_pos c, if_pos c]
        unfold chk at c
        by_cases c1 : fm n d q r m = true
        · rw [if_pos c1] at c
          by_cases c2 : rng n d q r l.length regions = true
          · rw [if_pos c2] at c; exact absurd c (by decide)
          · obtain ⟨a, b⟩ := rng_not (Bool.eq_false_iff.mpr c2)
            rw [needs_eq n d q r m l hl a b]
            rfl
        · rw [if_neg c1] at c; exact absurd c (by decide)
      · rw [if_neg c, if_neg c]
    have key : (if chk n d q r m l regions = 0 then nds n d q r m l else ([], chk n d q r m l regions)) = (if fm n d q r m = true then (if rng n d q r l.length regions = true then ([], 7) else nds n d q r m l) else ([], 3)) := by
      unfold chk
      by_cases c1 : fm n d q r m = true
      · rw [if_pos c1, if_pos c1]
        by_cases c2 : rng n d q r l.length regions = true
        · rw [if_pos c2, if_pos c2]; rfl
        · rw [if_neg c2, if_neg c2]
          by_cases c3 : (nds n d q r m l).2 = 0
          · rw [if_pos c3]
          · rw [if_neg c3, ← nds_nil c3]
      · rw [if_neg c1, if_neg c1]; rfl
    rw [hN, Option.bind_some, key, rneeds_eq n d q r m l regions hl 200 (by omega), Option.bind_some, check_eq n d q r m l regions hl 200 (by omega)]
    have hc : chk n d q r m l regions = (if fm n d q r m = true then (if rng n d q r l.length regions = true then ([], 7) else dcp (nds n d q r m l)) else (([] : List S128), 3)).2 := by
      unfold chk dcp
      split
      · split <;> rfl
      · rfl
    rw [hc]
    have hp : (if fm n d q r m = true then (if rng n d q r l.length regions = true then ([], 7) else dcp (nds n d q r m l)) else (([] : List S128), 3)) = dcp (if fm n d q r m = true then (if rng n d q r l.length regions = true then ([], 7) else nds n d q r m l) else ([], 3)) := by
      split
      · split <;> rfl
      · rfl
    rw [hp]
    have hz : (if fm n d q r m = true then (if rng n d q r l.length regions = true then ([], 7) else nds n d q r m l) else (([] : List S129), 3)).1.length ≤ 60 := by
      split
      · split
        · simp
        · exact hle
      · simp
    generalize (if fm n d q r m = true then (if rng n d q r l.length regions = true then ([], 7) else nds n d q r m l) else (([] : List S129), 3)) = p at hz ⊢
    rw [doc_eq p.1 (by omega) 200 (by omega), Option.bind_some]
    unfold dcp
    try dsimp only
    rw [nsame_self (p.1.map dc) (by simp; omega) 200 (by simp; omega), Option.bind_some, if_pos rfl, if_pos rfl, Option.bind_some, if_pos rfl, sawake_eq 200 (by omega)]
    rfl

end Go.Proofs.Ythhebinonpoddaa.Pure
