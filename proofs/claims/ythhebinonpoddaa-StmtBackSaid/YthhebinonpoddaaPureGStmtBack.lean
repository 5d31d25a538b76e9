/- Pure part of GStmtBack: what was put is taken as it was, whatever stands behind it, and what is taken is, put, the bytes that were taken -/
import Derived.Test.YthhebinonpoddaaGStmtBackxopen
import Derived.Laws.BitsLemmas
namespace Go.Proofs.Ythhebinonpoddaa.Pure
open Go.RowKit Go.Proofs.Ythhebinonpoddaa.GStmtBack Go.Proofs.YthhebinonpoddaaW.PrintWords Go.Proofs.YthhebinonpoddaaW.PrintLast
set_option linter.unusedSimpArgs false
set_option linter.unusedVariables false

/-! plain facts on numbers as bytes -/
theorem w64 (n : Int) (h0 : -9223372036854775808 ≤ n) (h1 : n < 9223372036854775808) : wrap64 n = n := by unfold wrap64; omega
/-- how many bytes follow -/
def mo (n : Int) : Int := if n < 248 then 0 else if n < 256 then 1 else if n < 65536 then 2 else if n < 16777216 then 3 else 4
theorem more_eq (n : Int) (h0 : 0 ≤ n) (h1 : n ≤ 4294967295) (k : Nat) (hk : 6 ≤ k) : leb_more.f k n = some (mo n) := by
  obtain ⟨m, rfl⟩ : ∃ m, k = m + 6 := ⟨k - 6, by omega⟩
  unfold leb_more.f mo
  have e1 : wrap64 (0 + 1) = 1 := by decide +kernel
  have e2 : wrap64 (1 + 1) = 2 := by decide +kernel
  have e3 : wrap64 (2 + 1) = 3 := by decide +kernel
  have e4 : wrap64 (3 + 1) = 4 := by decide +kernel
  simp only [leb_more.l0, e1, e2, e3, e4]
  by_cases c : n < 248
  · rw [if_neg (by omega), if_pos c]
  rw [if_pos (by omega), if_pos (by omega), if_neg c]
  by_cases c : n < 256
  · rw [if_pos (by omega), if_neg (by omega), if_pos c]
  rw [if_pos (by omega), if_pos (by omega), if_neg c]
  by_cases c : n < 65536
  · rw [if_pos (by omega), if_neg (by omega), if_pos c]
  rw [if_pos (by omega), if_pos (by omega), if_neg c]
  by_cases c : n < 16777216
  · rw [if_pos (by omega), if_neg (by omega), if_pos c]
  rw [if_pos (by omega), if_pos (by omega), if_neg c]
  rw [if_pos (by omega), if_neg (by omega)]
/-- a number's bytes -/
def putL (n : Int) : List Int := if n < 0 then [] else if n > 4294967295 then [] else if n < 248 then [n] else if n < 256 then [248, n] else if n < 65536 then [249, n / 256, n % 256] else if n < 16777216 then [250, n / 65536, n / 256 % 256, n % 256] else [251, n / 16777216, n / 65536 % 256, n / 256 % 256, n % 256]
theorem putL_none {n : Int} (h : n < 0 ∨ n > 4294967295) : putL n = [] := by
  unfold putL
  rcases h with h | h
  · rw [if_pos h]
  · rw [if_neg (by omega), if_pos h]
theorem strOf_nil : strOfNums [] = (⟨#[]⟩ : ByteArray) := rfl
theorem put_eq (n : Int) (k : Nat) (hk : 6 ≤ k) : leb_Put.f k n = some (strOfNums (putL n)) := by
  unfold leb_Put.f leb_Size.f
  by_cases c0 : n < 0
  · rw [if_pos c0, putL_none (.inl c0)]
    simp only [Option.bind_some]
    rw [if_pos (by decide +kernel), strOf_nil]
  rw [if_neg c0]
  by_cases c1 : n > 4294967295
  · rw [if_pos c1, putL_none (.inr c1)]
    simp only [Option.bind_some]
    rw [if_pos (by decide +kernel), strOf_nil]
  rw [if_neg c1, more_eq n (by omega) (by omega) k hk]
  simp only [Option.bind_some]
  unfold putL
  rw [if_neg c0, if_neg c1]
  obtain ⟨m, rfl⟩ : ∃ m, k = m + 6 := ⟨k - 6, by omega⟩
  unfold mo
  by_cases c : n < 248
  · rw [if_pos c, if_pos c, if_neg (by decide +kernel), if_pos (by decide +kernel), show n % 256 = n by omega]
  rw [if_neg c, if_neg c]
  by_cases c : n < 256
  · rw [if_pos c, if_pos c]
    rw [show wrap64 (wrap64 (1 + 1) - 1) = 1 by decide +kernel, if_neg (by decide +kernel), if_neg (by decide +kernel), if_pos (by decide +kernel), if_pos (by decide +kernel)]
    simp only [leb_Put.l0, show wrap64 (1 - 1) = 0 by decide +kernel, show wrap64 (1 + 1) = 2 by decide +kernel, show wrap64 (247 + 1) = 248 by decide +kernel]
    simp [List.replicate, show n % 256 = n by omega]
  rw [if_neg c, if_neg c]
  by_cases c : n < 65536
  · rw [if_pos c, if_pos c]
    rw [show wrap64 (wrap64 (1 + 2) - 1) = 2 by decide +kernel, if_neg (by decide +kernel), if_neg (by decide +kernel), if_pos (by decide +kernel), if_pos (by decide +kernel)]
    simp only [leb_Put.l0, show wrap64 (1 - 1) = 0 by decide +kernel, show wrap64 (2 - 1) = 1 by decide +kernel, show wrap64 (1 + 2) = 3 by decide +kernel, show wrap64 (247 + 2) = 249 by decide +kernel]
    simp [List.replicate, show n / 256 % 256 = n / 256 by omega]
  rw [if_neg c, if_neg c]
  by_cases c : n < 16777216
  · rw [if_pos c, if_pos c]
    rw [show wrap64 (wrap64 (1 + 3) - 1) = 3 by decide +kernel, if_neg (by decide +kernel), if_neg (by decide +kernel), if_pos (by decide +kernel), if_pos (by decide +kernel)]
    simp only [leb_Put.l0, show wrap64 (1 - 1) = 0 by decide +kernel, show wrap64 (2 - 1) = 1 by decide +kernel, show wrap64 (3 - 1) = 2 by decide +kernel, show wrap64 (1 + 3) = 4 by decide +kernel, show wrap64 (247 + 3) = 250 by decide +kernel]
    simp [List.replicate, show n / 256 / 256 % 256 = n / 65536 by omega]
  rw [if_neg c, if_neg c]
  rw [show wrap64 (wrap64 (1 + 4) - 1) = 4 by decide +kernel, if_neg (by decide +kernel), if_neg (by decide +kernel), if_pos (by decide +kernel), if_pos (by decide +kernel)]
  simp only [leb_Put.l0, show wrap64 (1 - 1) = 0 by decide +kernel, show wrap64 (2 - 1) = 1 by decide +kernel, show wrap64 (3 - 1) = 2 by decide +kernel, show wrap64 (4 - 1) = 3 by decide +kernel, show wrap64 (1 + 4) = 5 by decide +kernel, show wrap64 (247 + 4) = 251 by decide +kernel]
  simp [List.replicate, show n / 256 / 256 / 256 % 256 = n / 16777216 by omega, show n / 256 / 256 % 256 = n / 65536 % 256 by omega]
/-- all are bytes -/
theorem putL_bytes (n : Int) : ∀ x ∈ putL n, 0 ≤ x ∧ x < 256 := by
  unfold putL
  intro x hx
  repeat' split at hx
  all_goals simp at hx
  all_goals omega
theorem strOf_toList (l : List Int) : (strOfNums l).toList = l.map fun n => UInt8.ofNat n.toNat := by
  simp [strOfNums]
theorem strOf_append (a b : List Int) : strOfNums a ++ strOfNums b = strOfNums (a ++ b) := by
  apply ByteArray.ext
  simp [strOfNums]
theorem strOf_size (a : List Int) : (strOfNums a).size = a.length := by simp [strOfNums, ByteArray.size]
/-- so many bytes of s from place i on, behind n -/
def fold (s : ByteArray) : Nat → Int → Int → Int
  | 0, _, n => n
  | d + 1, i, n => fold s d (i + 1) (n * 256 + bt s i)
def Below256 (i n : Int) : Prop := 0 ≤ n ∧ (i = 1 → n = 0) ∧ (i = 2 → n < 256) ∧ (i = 3 → n < 65536) ∧ (i = 4 → n < 16777216) ∧ (i = 5 → n < 4294967296)
theorem or256 {n b : Int} (h0 : 0 ≤ n) (h1 : n < 16777216) (b0 : 0 ≤ b) (b1 : b < 256) : Go.bits .or .i64 (wrap64 (n * 256)) (wrap64 b) = n * 256 + b := by
  rw [w64 _ (by omega) (by omega), w64 _ (by omega) (by omega)]
  exact bits_join .i64 40 (by decide +kernel) (fun m _ h => by have h' : m < 1099511627776 := h; exact IntWalk.i64_in m (by omega)) 8 _ _ (by omega) (by omega) (by omega) (by omega) (by omega) (by omega)
theorem below_next {s : ByteArray} {i n : Int} (hi : 1 ≤ i) (h4 : i ≤ 4) (hb : Below256 i n) : Below256 (i + 1) (n * 256 + bt s i) ∧ n < 16777216 := by
  have hr := bt_range s i
  unfold Below256 at hb ⊢
  obtain ⟨h0, h1, h2, h3, h5, h6⟩ := hb
  refine ⟨⟨by omega, fun h => by omega, fun h => ?_, fun h => ?_, fun h => ?_, fun h => ?_⟩, by omega⟩
  · have := h1 (by omega); omega
  · have := h2 (by omega); omega
  · have := h3 (by omega); omega
  · have := h5 (by omega); omega
theorem fold_below (s : ByteArray) : ∀ (d : Nat) (i n : Int), 1 ≤ i → i + d ≤ 5 → Below256 i n → Below256 (i + d) (fold s d i n)
  | 0, i, n, _, _, hb => by simpa [fold] using hb
  | d + 1, i, n, h1, h5, hb => by
    have := fold_below s d (i + 1) (n * 256 + bt s i) (by omega) (by omega) (below_next h1 (by omega) hb).1
    have e : i + ((d + 1 : Nat) : Int) = i + 1 + (d : Int) := by omega
    rw [e]; exact this
theorem loop_take (s : ByteArray) (q : Int) (hq : q ≤ 4) (hs : q < s.size) (hq1 : 1 ≤ q) : ∀ (d k : Nat) (i n : Int), i + d = q + 1 → 1 ≤ i → Below256 i n → d + 7 ≤ k →
    leb_Take.l0 k s q n i = (if mo (fold s d i n) = q then some (fold s d i n, 1 + q, 0) else some (0, 0, 3))
  | 0, k, i, n, hd, h1, hb, hk => by
    obtain ⟨k, rfl⟩ : ∃ m, k = m + 1 := ⟨k - 1, by omega⟩
    have hi : i = q + 1 := by omega
    simp only [leb_Take.l0]
    rw [if_neg (by omega)]
    unfold Below256 at hb
    rw [more_eq n hb.1 (by omega) k (by omega), w64 (1 + q) (by omega) (by omega)]
    rfl
  | d + 1, k, i, n, hd, h1, hb, hk => by
    obtain ⟨k, rfl⟩ : ∃ m, k = m + 1 := ⟨k - 1, by omega⟩
    have hbn := below_next (s := s) h1 (by omega) hb
    have hr := bt_range s i
    simp only [leb_Take.l0]
    rw [if_pos (by omega), if_pos (by omega), if_pos (by omega), or256 hb.1 hbn.2 hr.1 (by omega), w64 (i + 1) (by omega) (by omega)]
    exact loop_take s q hq hs hq1 d k (i + 1) _ (by omega) (by omega) hbn.1 (by omega)
/-- what bytes begin with -/
def tk (s : ByteArray) : Int × Int × Int :=
  if s.size = 0 then (0, 0, 4) else if bt s 0 < 248 then (bt s 0, 1, 0) else if bt s 0 > 251 then (0, 0, 3) else
  if (s.size : Int) ≤ bt s 0 - 247 then (0, 0, 4) else
  if mo (fold s (bt s 0 - 247).toNat 1 0) = bt s 0 - 247 then (fold s (bt s 0 - 247).toNat 1 0, 1 + (bt s 0 - 247), 0) else (0, 0, 3)
theorem nil_iff (s : ByteArray) : s.toList = [] ↔ s.size = 0 := by
  rw [ByteArray.toList_eq]
  have : s.size = s.data.toList.length := Array.length_toList.symm
  rw [this, List.length_eq_zero_iff]
theorem take_eq (s : ByteArray) (k : Nat) (hk : 12 ≤ k) : leb_Take.f k s = some (tk s) := by
  have hr := bt_range s 0
  unfold leb_Take.f tk
  by_cases c : s.size = 0
  · rw [if_pos ((nil_iff s).2 c), if_pos c]
  rw [if_neg (fun h => c ((nil_iff s).1 h)), if_neg c, if_pos (by omega), w64 (bt s 0) (by omega) (by omega), w64 (bt s 0 - 248) (by omega) (by omega), w64 _ (by omega) (by omega)]
  by_cases c1 : bt s 0 < 248
  · rw [if_pos (by omega), if_pos c1]
  rw [if_neg (by omega), if_neg c1]
  by_cases c2 : bt s 0 > 251
  · rw [if_pos (by omega), if_pos c2]
  rw [if_neg (by omega), if_neg c2]
  have e : bt s 0 - 248 + 1 = bt s 0 - 247 := by omega
  rw [e]
  by_cases c3 : (s.size : Int) ≤ bt s 0 - 247
  · rw [if_pos c3, if_pos c3]
  rw [if_neg c3, if_neg c3, loop_take s (bt s 0 - 247) (by omega) (by omega) (by omega) (bt s 0 - 247).toNat k 1 0 (by omega) (by omega) ⟨by omega, by omega, by omega, by omega, by omega, by omega⟩ (by omega)]
  split <;> rfl
theorem u8_inj {a b : Int} (a0 : 0 ≤ a) (a1 : a < 256) (b0 : 0 ≤ b) (b1 : b < 256) : UInt8.ofNat a.toNat = UInt8.ofNat b.toNat ↔ a = b := by
  constructor
  · intro h
    have h' := congrArg UInt8.toNat h
    simp only [UInt8.toNat_ofNat'] at h'
    omega
  · intro h; rw [h]
theorem getD_bt (s : ByteArray) (i : Nat) (h : i < s.size) : s.toList[i]? = some (UInt8.ofNat (bt s i).toNat) := by
  rw [ByteArray.toList_eq, Array.getElem?_toList, Array.getElem?_eq_getElem (by simpa using h)]
  unfold bt
  rw [dif_pos (by simpa using h)]
  congr 1
  simp [ByteArray.getElem_eq_getElem_data]
theorem extract_toList (s : ByteArray) (k : Nat) : (s.extract 0 k).toList = s.toList.take k := by
  rw [ByteArray.toList_eq, ByteArray.toList_eq, ByteArray.data_extract]
  simp
theorem map_inj : ∀ (l m : List Int), (∀ x ∈ l, 0 ≤ x ∧ x < 256) → (∀ x ∈ m, 0 ≤ x ∧ x < 256) → (l.map (fun n => UInt8.ofNat n.toNat) = m.map (fun n => UInt8.ofNat n.toNat) ↔ l = m)
  | [], [], _, _ => by simp
  | [], _ :: _, _, _ => by simp
  | _ :: _, [], _, _ => by simp
  | a :: l, b :: m, hl, hm => by
    have ha := hl a (by simp)
    have hb := hm b (by simp)
    simp only [List.map_cons, List.cons.injEq, u8_inj ha.1 ha.2 hb.1 hb.2, map_inj l m (fun x hx => hl x (by simp [hx])) (fun x hx => hm x (by simp [hx]))]
/-- the first bytes, as numbers -/
def head (s : ByteArray) : Nat → List Int
  | 0 => []
  | k + 1 => head s k ++ [bt s k]
theorem head_bytes (s : ByteArray) : ∀ k, ∀ x ∈ head s k, 0 ≤ x ∧ x < 256
  | 0, x, h => by simp [head] at h
  | k + 1, x, h => by
    simp only [head, List.mem_append, List.mem_singleton] at h
    rcases h with h | h
    · exact head_bytes s k x h
    · have := bt_range s k; omega
theorem take_head (s : ByteArray) : ∀ k, k ≤ s.size → s.toList.take k = (head s k).map fun n => UInt8.ofNat n.toNat
  | 0, _ => by simp [head]
  | k + 1, h => by
    rw [List.take_add_one, take_head s k (by omega), getD_bt s k (by omega)]
    simp [head]
/-- as many bytes as the number has: just if they are the number's -/
theorem mo_put (s : ByteArray) (q : Nat) (h1 : 1 ≤ q) (h4 : q ≤ 4) (h0 : bt s 0 = 247 + q) : mo (fold s q 1 0) = q ↔ putL (fold s q 1 0) = head s (1 + q) := by
  have r1 := bt_range s 1
  have r2 := bt_range s 2
  have r3 := bt_range s 3
  have r4 := bt_range s 4
  have h0' : bt s ((0 : Nat) : Int) = 247 + q := h0
  obtain rfl | rfl | rfl | rfl : q = 1 ∨ q = 2 ∨ q = 3 ∨ q = 4 := by omega
  all_goals simp only [fold, head, List.nil_append, List.cons_append, h0']
  all_goals simp only [Int.reduceAdd, Int.natCast_one, Int.zero_add, Int.zero_mul]
  · generalize bt s 1 = b1 at *
    unfold mo putL
    repeat' split
    all_goals simp
    all_goals omega
  · generalize bt s 1 = b1 at *
    generalize bt s 2 = b2 at *
    unfold mo putL
    repeat' split
    all_goals simp
    all_goals omega
  · generalize bt s 1 = b1 at *
    generalize bt s 2 = b2 at *
    generalize bt s 3 = b3 at *
    unfold mo putL
    repeat' split
    all_goals simp
    all_goals omega
  · generalize bt s 1 = b1 at *
    generalize bt s 2 = b2 at *
    generalize bt s 3 = b3 at *
    generalize bt s 4 = b4 at *
    unfold mo putL
    repeat' split
    all_goals simp
    all_goals omega
theorem bt_append (l : List Int) (hl : ∀ x ∈ l, 0 ≤ x ∧ x < 256) (s : ByteArray) (i : Nat) (h : i < l.length) : bt (strOfNums l ++ s) i = l[i] := by
  have hb := hl l[i] (List.getElem_mem h)
  have hs : i < (strOfNums l ++ s).size := by rw [ByteArray.size_append, strOf_size]; omega
  have e := getD_bt (strOfNums l ++ s) i hs
  have ht : (strOfNums l ++ s).toList = (l.map fun n => UInt8.ofNat n.toNat) ++ s.toList := by
    rw [ByteArray.toList_eq, ByteArray.toList_eq]; simp [strOfNums]
  rw [ht, List.getElem?_append_left (by simpa using h), List.getElem?_map, List.getElem?_eq_getElem h] at e
  simp only [Option.map_some, Option.some.injEq] at e
  have hr := bt_range (strOfNums l ++ s) i
  exact ((u8_inj hb.1 hb.2 hr.1 (by omega)).1 e).symm
theorem put_some {n : Int} (h0 : 0 ≤ n) (h1 : n ≤ 4294967295) : (putL n).length = 1 + (mo n).toNat ∧ 0 ≤ mo n ∧ mo n ≤ 4 ∧ (mo n = 0 ↔ n < 248) := by
  unfold putL mo
  rw [if_neg (show ¬ n < 0 by omega), if_neg (show ¬ n > 4294967295 by omega)]
  repeat' split
  all_goals simp
  all_goals omega
theorem tk_put {n : Int} (h0 : 0 ≤ n) (h1 : n ≤ 4294967295) (s : ByteArray) : tk (strOfNums (putL n) ++ s) = (n, ((putL n).length : Int), 0) := by
  have hb := putL_bytes n
  have hp := put_some h0 h1
  have hz : (strOfNums (putL n) ++ s).size = (putL n).length + s.size := by rw [ByteArray.size_append, strOf_size]
  have B := bt_append (putL n) hb s
  generalize hS : strOfNums (putL n) ++ s = S at *
  have b0 : bt S 0 = bt S ((0 : Nat) : Int) := rfl
  have b1 : bt S 1 = bt S ((1 : Nat) : Int) := rfl
  have b2 : bt S 2 = bt S ((2 : Nat) : Int) := rfl
  have b3 : bt S 3 = bt S ((3 : Nat) : Int) := rfl
  have b4 : bt S 4 = bt S ((4 : Nat) : Int) := rfl
  unfold tk
  rw [if_neg (by omega)]
  by_cases c0 : n < 248
  · have e : putL n = [n] := by unfold putL; rw [if_neg (by omega), if_neg (by omega), if_pos c0]
    have e0 : bt S 0 = n := by rw [b0, B 0 (by rw [e]; simp)]; simp [e]
    rw [e0, if_pos c0, e]; rfl
  by_cases c1 : n < 256
  · have e : putL n = [248, n] := by unfold putL; rw [if_neg (by omega), if_neg (by omega), if_neg c0, if_pos c1]
    have e0 : bt S 0 = 248 := by rw [b0, B 0 (by rw [e]; simp)]; simp [e]
    have e1 : bt S 1 = n := by rw [b1, B 1 (by rw [e]; simp)]; simp [e]
    rw [e] at hz
    simp at hz
    rw [e0, if_neg (by omega), if_neg (by omega), if_neg (by omega), show ((248 : Int) - 247).toNat = 1 by omega]
    have hf : fold S 1 1 0 = n := by simp only [fold, e1]; omega
    rw [hf, if_pos (by unfold mo; rw [if_neg c0, if_pos c1]; omega), e]; rfl
  by_cases c2 : n < 65536
  · have e : putL n = [249, n / 256, n % 256] := by unfold putL; rw [if_neg (by omega), if_neg (by omega), if_neg c0, if_neg c1, if_pos c2]
    have e0 : bt S 0 = 249 := by rw [b0, B 0 (by rw [e]; simp)]; simp [e]
    have e1 : bt S 1 = n / 256 := by rw [b1, B 1 (by rw [e]; simp)]; simp [e]
    have e2 : bt S 2 = n % 256 := by rw [b2, B 2 (by rw [e]; simp)]; simp [e]
    rw [e] at hz
    simp at hz
    rw [e0, if_neg (by omega), if_neg (by omega), if_neg (by omega), show ((249 : Int) - 247).toNat = 2 by omega]
    have hf : fold S 2 1 0 = n := by simp only [fold, e1, Int.reduceAdd, e2]; omega
    rw [hf, if_pos (by unfold mo; rw [if_neg c0, if_neg c1, if_pos c2]; omega), e]; rfl
  by_cases c3 : n < 16777216
  · have e : putL n = [250, n / 65536, n / 256 % 256, n % 256] := by unfold putL; rw [if_neg (by omega), if_neg (by omega), if_neg c0, if_neg c1, if_neg c2, if_pos c3]
    have e0 : bt S 0 = 250 := by rw [b0, B 0 (by rw [e]; simp)]; simp [e]
    have e1 : bt S 1 = n / 65536 := by rw [b1, B 1 (by rw [e]; simp)]; simp [e]
    have e2 : bt S 2 = n / 256 % 256 := by rw [b2, B 2 (by rw [e]; simp)]; simp [e]
    have e3 : bt S 3 = n % 256 := by rw [b3, B 3 (by rw [e]; simp)]; simp [e]
    rw [e] at hz
    simp at hz
    rw [e0, if_neg (by omega), if_neg (by omega), if_neg (by omega), show ((250 : Int) - 247).toNat = 3 by omega]
    have hf : fold S 3 1 0 = n := by simp only [fold, e1, Int.reduceAdd, e2, e3]; omega
    rw [hf, if_pos (by unfold mo; rw [if_neg c0, if_neg c1, if_neg c2, if_pos c3]; omega), e]; rfl
  have e : putL n = [251, n / 16777216, n / 65536 % 256, n / 256 % 256, n % 256] := by unfold putL; rw [if_neg (by omega), if_neg (by omega), if_neg c0, if_neg c1, if_neg c2, if_neg c3]
  have e0 : bt S 0 = 251 := by rw [b0, B 0 (by rw [e]; simp)]; simp [e]
  have e1 : bt S 1 = n / 16777216 := by rw [b1, B 1 (by rw [e]; simp)]; simp [e]
  have e2 : bt S 2 = n / 65536 % 256 := by rw [b2, B 2 (by rw [e]; simp)]; simp [e]
  have e3 : bt S 3 = n / 256 % 256 := by rw [b3, B 3 (by rw [e]; simp)]; simp [e]
  have e4 : bt S 4 = n % 256 := by rw [b4, B 4 (by rw [e]; simp)]; simp [e]
  rw [e] at hz
  simp at hz
  rw [e0, if_neg (by omega), if_neg (by omega), if_neg (by omega), show ((251 : Int) - 247).toNat = 4 by omega]
  have hf : fold S 4 1 0 = n := by simp only [fold, e1, Int.reduceAdd, e2, e3, e4]; omega
  rw [hf, if_pos (by unfold mo; rw [if_neg c0, if_neg c1, if_neg c2, if_neg c3]; omega), e]; rfl
theorem tk_ok {s : ByteArray} {y j : Int} (h : tk s = (y, j, 0)) : 1 ≤ j ∧ j ≤ s.size ∧ putL y = head s j.toNat := by
  have hr := bt_range s 0
  unfold tk at h
  by_cases c : s.size = 0
  · rw [if_pos c] at h; simp at h
  rw [if_neg c] at h
  by_cases c1 : bt s 0 < 248
  · rw [if_pos c1] at h
    simp only [Prod.mk.injEq, and_true] at h
    obtain ⟨rfl, rfl⟩ := h
    refine ⟨by omega, by omega, ?_⟩
    unfold putL
    rw [if_neg (by omega), if_neg (by omega), if_pos c1]
    simp [head]
  rw [if_neg c1] at h
  by_cases c2 : bt s 0 > 251
  · rw [if_pos c2] at h; simp at h
  rw [if_neg c2] at h
  by_cases c3 : (s.size : Int) ≤ bt s 0 - 247
  · rw [if_pos c3] at h; simp at h
  rw [if_neg c3] at h
  by_cases c4 : mo (fold s (bt s 0 - 247).toNat 1 0) = bt s 0 - 247
  · rw [if_pos c4] at h
    simp only [Prod.mk.injEq, and_true] at h
    obtain ⟨rfl, rfl⟩ := h
    refine ⟨by omega, by omega, ?_⟩
    have key := mo_put s (bt s 0 - 247).toNat (by omega) (by omega) (by omega)
    rw [show (1 + (bt s 0 - 247)).toNat = 1 + (bt s 0 - 247).toNat by omega]
    exact key.1 (by omega)
  · rw [if_neg c4] at h; simp at h
/-! statements as bytes: what the program and the reference both tell -/
def kD (n : Int) : Bool := n == 1 || n == 2 || n == 3 || n == 5
def kS (n : Int) : Bool := decide (1 ≤ n) && decide (n ≤ 4)
def kR (n : Int) : Bool := n == 2 || n == 3
theorem kinds (n : Int) : (n = 0 ∨ n = 1 ∨ n = 2 ∨ n = 3 ∨ n = 4 ∨ n = 5) ∨ (n ≠ 0 ∧ n ≠ 1 ∧ n ≠ 2 ∧ n ≠ 3 ∧ n ≠ 4 ∧ n ≠ 5) := by omega
theorem of_eq (n : Int) (k : Nat) : stmt_of.f (k + 1) n = some (kD n && decide (0 ≤ n ∧ n ≤ 5), kS n && decide (0 ≤ n ∧ n ≤ 5), kR n && decide (0 ≤ n ∧ n ≤ 5), decide (0 ≤ n ∧ n ≤ 5)) := by
  unfold stmt_of.f
  rcases kinds n with (rfl | rfl | rfl | rfl | rfl | rfl) | ⟨h0, h1, h2, h3, h4, h5⟩
  all_goals simp [stmt_of.j0, kD, kS, kR, *]
  omega
/-- What a number at the begin is: its range. -/
theorem tk_range (s : ByteArray) : 0 ≤ (tk s).1 ∧ (tk s).1 ≤ 4294967295 ∧ 0 ≤ (tk s).2.1 ∧ (tk s).2.1 ≤ s.size ∧ (tk s).2.1 ≤ 5 := by
  have hr := bt_range s 0
  unfold tk
  split
  · simp
  split
  · rename_i c c1; simp only; omega
  split
  · simp
  split
  · simp
  split
  · rename_i c c1 c2 c3 c4
    have hb := fold_below s (bt s 0 - 247).toNat 1 0 (by omega) (by omega) ⟨by omega, by omega, by omega, by omega, by omega, by omega⟩
    unfold Below256 at hb
    obtain ⟨b0, b1, b2, b3, b4, b5⟩ := hb
    simp only
    refine ⟨b0, ?_, by omega, by omega, by omega⟩
    have : bt s 0 - 247 = 1 ∨ bt s 0 - 247 = 2 ∨ bt s 0 - 247 = 3 ∨ bt s 0 - 247 = 4 := by omega
    rcases this with h | h | h | h
    · have := b2 (by omega); omega
    · have := b3 (by omega); omega
    · have := b4 (by omega); omega
    · have := b5 (by omega); omega
  · simp
abbrev R7 := Int × Int × Int × Int × Bool × Int × Int
/-- One field. -/
def fs (s : ByteArray) (d : Bool) (a : Int) (c : Int → Int → R7) : R7 :=
  if d = true then (if (tk (s.extract a.toNat s.size)).2.2 = 0 then c (tk (s.extract a.toNat s.size)).1 (a + (tk (s.extract a.toNat s.size)).2.1) else (0, 0, 0, 0, false, 0, (tk (s.extract a.toNat s.size)).2.2)) else c 0 a
/-- The statement with which bytes begin. -/
def tkS (s : ByteArray) : R7 :=
  if (tk s).2.2 = 0 then (if (tk s).1 ≤ 5 then fs s (kD (tk s).1) (tk s).2.1 fun d a => fs s (kS (tk s).1) a fun q a => fs s (kR (tk s).1) a fun r a => ((tk s).1, d, q, r / 2, r % 2 == 1, a, 0) else (0, 0, 0, 0, false, 0, 3)) else (0, 0, 0, 0, false, 0, (tk s).2.2)
theorem ext_size (s : ByteArray) (a : Int) (h0 : 0 ≤ a) (h1 : a ≤ s.size) : ((s.extract a.toNat s.size).size : Int) = s.size - a := by
  rw [ByteArray.size_extract]; omega
theorem g_eq (s : ByteArray) (hs : s.size ≤ 1000000) (k : Nat) (hk : 12 ≤ k) (d : Bool) (a : Int) (h0 : 0 ≤ a) (h1 : a ≤ s.size) (c : Int → Int → Option R7) (c' : Int → Int → R7)
    (hc : ∀ n b : Int, 0 ≤ n → n ≤ 4294967295 → 0 ≤ b → b ≤ s.size → c n b = some (c' n b)) : stmt_Take.g k s d a c = some (fs s d a c') := by
  unfold stmt_Take.g fs
  cases d with
  | false => simp only [Bool.false_eq_true, if_false]; exact hc 0 a (by omega) (by omega) h0 h1
  | true =>
    have hr := tk_range (s.extract a.toNat s.size)
    have hz := ext_size s a h0 h1
    rw [if_pos rfl, if_pos rfl, if_pos h0, if_pos h1, take_eq _ k hk]
    simp only [Option.bind_some]
    by_cases c1 : (tk (s.extract a.toNat s.size)).2.2 = 0
    · rw [if_pos c1, if_pos c1, w64 _ (by omega) (by omega)]
      exact hc _ _ (by omega) (by omega) (by omega) (by omega)
    · rw [if_neg c1, if_neg c1]
theorem stake_eq (s : ByteArray) (hs : s.size ≤ 1000000) (k : Nat) (hk : 12 ≤ k) : stmt_Take.f k s = some (tkS s) := by
  have hr := tk_range s
  unfold stmt_Take.f tkS
  rw [take_eq s k hk]
  simp only [Option.bind_some]
  by_cases c1 : (tk s).2.2 = 0
  · rw [if_pos c1, if_pos c1]
    obtain ⟨m, rfl⟩ : ∃ m, k = m + 1 := ⟨k - 1, by omega⟩
    rw [of_eq]
    simp only [Option.bind_some]
    by_cases c2 : (tk s).1 ≤ 5
    · have e : decide (0 ≤ (tk s).1 ∧ (tk s).1 ≤ 5) = true := decide_eq_true ⟨hr.1, c2⟩
      rw [e, if_pos rfl, if_pos c2]
      simp only [Bool.and_true, stmt_Take.st]
      refine g_eq s hs _ hk _ _ (by omega) (by omega) _ _ fun d a _ _ ha0 ha1 => ?_
      refine g_eq s hs _ hk _ _ ha0 ha1 _ _ fun q b _ _ hb0 hb1 => ?_
      refine g_eq s hs _ hk _ _ hb0 hb1 _ _ fun r e h0 h1 _ _ => ?_
      unfold stmt_Take.fin
      rw [Int.tdiv_eq_ediv_of_nonneg h0, Int.tmod_eq_emod_of_nonneg h0, w64 _ (by omega) (by omega)]
    · have e : decide (0 ≤ (tk s).1 ∧ (tk s).1 ≤ 5) = false := decide_eq_false (fun h => c2 h.2)
      rw [e, if_neg (by simp), if_neg c2]
  · rw [if_neg c1, if_neg c1]
/-- May a statement be: the fields of its kind alone? -/
def fm (n d q r : Int) (m : Bool) : Bool := decide (0 ≤ n ∧ n ≤ 5) && (kD n || d == 0) && (kS n || q == 0) && (kR n || (r == 0 && !m))
theorem beq0 (x : Int) : ((0 : Int) == x) = (x == 0) := by rw [Bool.eq_iff_iff, beq_iff_eq, beq_iff_eq]; exact ⟨Eq.symm, Eq.symm⟩
theorem form_eq (n d q r : Int) (m : Bool) (k : Nat) : ∃ u1 u2 u3, stmt_form.f (k + 2) n d q r m = some (u1, u2, u3, fm n d q r m) ∧ (fm n d q r m = true → u1 = kD n ∧ u2 = kS n ∧ u3 = kR n) := by
  unfold stmt_form.f
  rw [of_eq]
  rcases kinds n with (rfl | rfl | rfl | rfl | rfl | rfl) | ⟨h0, h1, h2, h3, h4, h5⟩
  · refine ⟨false, false, false, ?_, fun _ => by decide +kernel⟩
    simp [stmt_form.j0, kD, kS, kR, fm]
    cases m <;> simp [Bool.and_assoc, beq0]
  · refine ⟨true, true, false, ?_, fun _ => by decide +kernel⟩
    simp [stmt_form.j0, kD, kS, kR, fm]
    cases m <;> simp [Bool.and_assoc, beq0]
  · refine ⟨true, true, true, ?_, fun _ => by decide +kernel⟩
    simp [stmt_form.j0, kD, kS, kR, fm]
  · refine ⟨true, true, true, ?_, fun _ => by decide +kernel⟩
    simp [stmt_form.j0, kD, kS, kR, fm]
  · refine ⟨false, true, false, ?_, fun _ => by decide +kernel⟩
    simp [stmt_form.j0, kD, kS, kR, fm]
    cases m <;> simp [Bool.and_assoc, beq0]
  · refine ⟨true, false, false, ?_, fun _ => by decide +kernel⟩
    simp [stmt_form.j0, kD, kS, kR, fm]
    cases m <;> simp [Bool.and_assoc, beq0]
  · have hn : ¬ (0 ≤ n ∧ n ≤ 5) := by omega
    have e : fm n d q r m = false := by simp [fm, hn]
    rw [e]
    refine ⟨false, false, false, ?_, fun h => by simp at h⟩
    simp [stmt_form.j0, kD, kS, kR, hn, h1, h2, h3, h5]
/-- A statement's bytes, as numbers. -/
def putS (n d q r : Int) (m : Bool) : List Int := putL n ++ (if kD n = true then putL d else []) ++ (if kS n = true then putL q else []) ++ (if kR n = true then putL (if m = true then 2 * r + 1 else 2 * r) else [])
theorem putL_len (n : Int) : (putL n).length ≤ 5 := by
  unfold putL
  repeat' split
  all_goals simp
theorem sput_eq (n d q r : Int) (m : Bool) (hr0 : 0 ≤ r) (hr1 : r < 2147483648) (k : Nat) (hk : 12 ≤ k) :
    stmt_Put.f k n d q r m = some (if fm n d q r m = true then (strOfNums (putS n d q r m), 0) else (⟨#[]⟩, 3)) := by
  obtain ⟨k, rfl⟩ : ∃ j, k = j + 2 := ⟨k - 2, by omega⟩
  obtain ⟨u1, u2, u3, hf, hu⟩ := form_eq n d q r m k
  unfold stmt_Put.f
  rw [hf]
  simp only [Option.bind_some]
  cases hfm : fm n d q r m with
  | false => simp
  | true =>
    obtain ⟨rfl, rfl, rfl⟩ := hu hfm
    have hn := putL_len n
    have hd := putL_len d
    have hq := putL_len q
    have hx : wrap64 (wrap64 (2 * r) + 1) = 2 * r + 1 := by rw [w64 (2 * r) (by omega) (by omega), w64 _ (by omega) (by omega)]
    have hy : wrap64 (2 * r) = 2 * r := w64 _ (by omega) (by omega)
    have hz : wrap64 (2 * r + 1) = 2 * r + 1 := w64 _ (by omega) (by omega)
    have l1 := putL_len (2 * r + 1)
    have l0 := putL_len (2 * r)
    have P := fun x => put_eq x (k + 2) (by omega)
    have P1 := fun x => put_eq x (k + 1) (by omega)
    have P0 := fun x => put_eq x k (by omega)
    unfold putS
    simp only [P, P1, P0, Option.bind_some, strOf_append, strOf_size, stmt_Put.j0, stmt_Put.j1, hx, hy, hz]
    cases kD n <;> cases kS n <;> cases kR n <;> cases m <;> simp [strOf_append, strOf_size, Nat.le_trans, List.append_assoc] <;> omega
theorem sawake_eq (k : Nat) (hk : 20 ≤ k) : easementlaw18_awake.f k = some true := by
  unfold easementlaw18_awake.f
  rw [sput_eq _ _ _ _ _ (by omega) (by omega) k (by omega), sput_eq _ _ _ _ _ (by omega) (by omega) k (by omega)]
  have e1 : fm 2 1 2 3 true = true := by decide +kernel
  have e2 : fm 4 1 0 0 false = false := by decide +kernel
  rw [e1, e2]
  simp only [Option.bind_some, if_true, strOf_toList]
  decide +kernel
theorem cut_off (P Q : List Int) (s : ByteArray) : (strOfNums (P ++ Q) ++ s).extract P.length (strOfNums (P ++ Q) ++ s).size = strOfNums Q ++ s := by
  rw [← strOf_append, ByteArray.append_assoc]
  exact ByteArray.extract_append_eq_right (strOf_size P).symm (by rw [ByteArray.size_append])
theorem fs_put (S : ByteArray) (P Q : List Int) (x : Int) (s : ByteArray) (h0 : 0 ≤ x) (h1 : x ≤ 4294967295) (hS : S = strOfNums (P ++ (putL x ++ Q)) ++ s) (c : Int → Int → R7) :
    fs S true (P.length : Int) c = c x (((P ++ putL x).length : Nat) : Int) := by
  unfold fs
  have e : S.extract (P.length : Int).toNat S.size = strOfNums (putL x) ++ (strOfNums Q ++ s) := by
    rw [hS, Int.toNat_natCast, cut_off, ← strOf_append, ByteArray.append_assoc]
  rw [e, tk_put h0 h1]
  simp only [if_true, List.length_append, Int.natCast_add]
theorem fs_no (S : ByteArray) (P : List Int) (c : Int → Int → R7) : fs S false (P.length : Int) c = c 0 (P.length : Int) := by unfold fs; rw [if_neg (by simp)]
theorem tk_put0 (S : ByteArray) (Q : List Int) (x : Int) (s : ByteArray) (h0 : 0 ≤ x) (h1 : x ≤ 4294967295) (hS : S = strOfNums (putL x ++ Q) ++ s) : tk S = (x, ((putL x).length : Int), 0) := by
  rw [hS, ← strOf_append, ByteArray.append_assoc, tk_put h0 h1]
/-- What was put is taken as it was. -/
theorem back (n d q r : Int) (m : Bool) (s : ByteArray) (hf : fm n d q r m = true) (d0 : 0 ≤ d) (d1 : d < 2147483648) (q0 : 0 ≤ q) (q1 : q < 2147483648) (r0 : 0 ≤ r) (r1 : r < 2147483648) :
    tkS (strOfNums (putS n d q r m) ++ s) = (n, d, q, r, m, ((putS n d q r m).length : Int), 0) := by
  have hn : 0 ≤ n ∧ n ≤ 5 := by
    unfold fm at hf
    simp only [Bool.and_eq_true] at hf
    exact of_decide_eq_true hf.1.1.1
  generalize hS : strOfNums (putS n d q r m) ++ s = S
  unfold putS at hS ⊢
  unfold fm at hf
  unfold tkS
  have e0 := tk_put0 S ((if kD n = true then putL d else []) ++ ((if kS n = true then putL q else []) ++ (if kR n = true then putL (if m = true then 2 * r + 1 else 2 * r) else []))) n s (by omega) (by omega) (by rw [← hS]; simp [List.append_assoc])
  rw [e0]
  simp only [if_true]
  rw [if_pos hn.2]
  have hm1 : (2 * r + 1) / 2 = r := by omega
  have hm2 : (2 * r + 1) % 2 = 1 := by omega
  have hm3 : (2 * r) / 2 = r := by omega
  have hm4 : (2 * r) % 2 = 0 := by omega
  cases hD : kD n with
  | false =>
    have hd : d = 0 := by rw [hD] at hf; simp at hf; exact hf.1.1.2
    subst hd
    rw [fs_no]
    cases hQ : kS n with
    | false =>
      have hq : q = 0 := by rw [hQ] at hf; simp at hf; exact hf.1.2
      subst hq
      rw [fs_no]
      cases hR : kR n with
      | false =>
        obtain ⟨rfl, rfl⟩ : r = 0 ∧ m = false := by rw [hR] at hf; simp at hf; exact hf.2
        rw [fs_no]
        simp
      | true =>
        rw [fs_put S (putL n) [] (if m = true then 2 * r + 1 else 2 * r) s (by split <;> omega) (by split <;> omega) (by rw [← hS, hD, hQ, hR]; simp)]
        cases m <;> simp [hm1, hm2, hm3, hm4]
    | true =>
      rw [fs_put S (putL n) (if kR n = true then putL (if m = true then 2 * r + 1 else 2 * r) else []) q s (by omega) (by omega) (by rw [← hS, hD, hQ]; simp [List.append_assoc])]
      cases hR : kR n with
      | false =>
        obtain ⟨rfl, rfl⟩ : r = 0 ∧ m = false := by rw [hR] at hf; simp at hf; exact hf.2
        rw [fs_no]
        simp
      | true =>
        rw [fs_put S (putL n ++ putL q) [] (if m = true then 2 * r + 1 else 2 * r) s (by split <;> omega) (by split <;> omega) (by rw [← hS, hD, hQ, hR]; simp [List.append_assoc])]
        cases m <;> simp [hm1, hm2, hm3, hm4, List.append_assoc]
  | true =>
    rw [fs_put S (putL n) ((if kS n = true then putL q else []) ++ (if kR n = true then putL (if m = true then 2 * r + 1 else 2 * r) else [])) d s (by omega) (by omega) (by rw [← hS, hD]; simp [List.append_assoc])]
    cases hQ : kS n with
    | false =>
      have hq : q = 0 := by rw [hQ] at hf; simp at hf; exact hf.1.2
      subst hq
      rw [fs_no]
      cases hR : kR n with
      | false =>
        obtain ⟨rfl, rfl⟩ : r = 0 ∧ m = false := by rw [hR] at hf; simp at hf; exact hf.2
        rw [fs_no]
        simp
      | true =>
        rw [fs_put S (putL n ++ putL d) [] (if m = true then 2 * r + 1 else 2 * r) s (by split <;> omega) (by split <;> omega) (by rw [← hS, hD, hQ, hR]; simp [List.append_assoc])]
        cases m <;> simp [hm1, hm2, hm3, hm4, List.append_assoc]
    | true =>
      rw [fs_put S (putL n ++ putL d) (if kR n = true then putL (if m = true then 2 * r + 1 else 2 * r) else []) q s (by omega) (by omega) (by rw [← hS, hD, hQ]; simp [List.append_assoc])]
      cases hR : kR n with
      | false =>
        obtain ⟨rfl, rfl⟩ : r = 0 ∧ m = false := by rw [hR] at hf; simp at hf; exact hf.2
        rw [fs_no]
        simp
      | true =>
        rw [fs_put S (putL n ++ putL d ++ putL q) [] (if m = true then 2 * r + 1 else 2 * r) s (by split <;> omega) (by split <;> omega) (by rw [← hS, hD, hQ, hR]; simp [List.append_assoc])]
        cases m <;> simp [hm1, hm2, hm3, hm4, List.append_assoc]
theorem bt_cut (s : ByteArray) (a i : Nat) (h : a + i < s.size) : bt (s.extract a s.size) (i : Int) = bt s ((a + i : Nat) : Int) := by
  unfold bt
  have h1 : ((i : Int)).toNat < (s.extract a s.size).size := by rw [ByteArray.size_extract]; omega
  have h2 : (((a + i : Nat) : Int)).toNat < s.size := by omega
  rw [dif_pos h1, dif_pos h2]
  have e2 : ((a : Int) + (i : Int)).toNat = a + i := by omega
  simp [ByteArray.getElem_extract, e2]
theorem head_add (s : ByteArray) (a : Nat) : ∀ j, a + j ≤ s.size → head s (a + j) = head s a ++ head (s.extract a s.size) j
  | 0, _ => by simp [head]
  | j + 1, h => by
    show head s (a + j) ++ [bt s ((a + j : Nat) : Int)] = head s a ++ (head (s.extract a s.size) j ++ [bt (s.extract a s.size) (j : Int)])
    rw [head_add s a j (by omega), bt_cut s a j (by omega), List.append_assoc]
/-- A field that was taken, put again, is the bytes. -/
theorem fs_back (s : ByteArray) (D : Bool) (a : Nat) (ha : a ≤ s.size) (c : Int → Int → R7) {R : R7} (h : fs s D (a : Int) c = R) (hR : R.2.2.2.2.2.2 = 0) :
    ∃ (x : Int) (b : Nat), 0 ≤ x ∧ x ≤ 4294967295 ∧ b ≤ s.size ∧ a ≤ b ∧ c x (b : Int) = R ∧ (D = false → x = 0) ∧ head s b = head s a ++ (if D = true then putL x else []) := by
  unfold fs at h
  cases D with
  | false =>
    rw [if_neg (by simp)] at h
    exact ⟨0, a, by omega, by omega, ha, Nat.le_refl _, h, fun _ => rfl, by simp⟩
  | true =>
    rw [if_pos rfl, Int.toNat_natCast] at h
    by_cases c1 : (tk (s.extract a s.size)).2.2 = 0
    · rw [if_pos c1] at h
      have hr := tk_range (s.extract a s.size)
      obtain ⟨x, j, e⟩ : ∃ x j, tk (s.extract a s.size) = (x, j, 0) := ⟨_, _, by rw [← c1]⟩
      obtain ⟨h1, h2, h3⟩ := tk_ok e
      rw [e] at h hr
      have hz : (s.extract a s.size).size = s.size - a := by rw [ByteArray.size_extract]; omega
      have hj : ((j.toNat : Nat) : Int) = j := by omega
      refine ⟨x, a + j.toNat, hr.1, hr.2.1, by omega, by omega, ?_, by simp, ?_⟩
      · rw [← h]; simp only; congr 1; omega
      · rw [head_add s a j.toNat (by omega), ← h3]; simp
    · rw [if_neg c1] at h
      rw [← h] at hR
      exact absurd hR c1
/-- What is taken is, put, the bytes that were taken. -/
theorem fore (s : ByteArray) {n d q r e : Int} {m : Bool} (h : tkS s = (n, d, q, r, m, e, 0)) : fm n d q r m = true ∧ 0 ≤ r ∧ r < 2147483648 ∧ 0 ≤ e ∧ e ≤ s.size ∧ putS n d q r m = head s e.toNat := by
  have hr := tk_range s
  unfold tkS at h
  by_cases c1 : (tk s).2.2 = 0
  · rw [if_pos c1] at h
    by_cases c2 : (tk s).1 ≤ 5
    · rw [if_pos c2] at h
      obtain ⟨x, j, ej⟩ : ∃ x j, tk s = (x, j, 0) := ⟨_, _, by rw [← c1]⟩
      obtain ⟨h1, h2, h3⟩ := tk_ok ej
      rw [ej] at h hr c2
      simp only at h hr c2
      have hj : ((j.toNat : Nat) : Int) = j := by omega
      rw [← hj] at h
      obtain ⟨x1, b1, x10, x11, hb1, hab1, hc1, hz1, hh1⟩ := fs_back s (kD x) j.toNat (by omega) _ h rfl
      obtain ⟨x2, b2, x20, x21, hb2, hab2, hc2, hz2, hh2⟩ := fs_back s (kS x) b1 hb1 _ hc1 rfl
      obtain ⟨x3, b3, x30, x31, hb3, hab3, hc3, hz3, hh3⟩ := fs_back s (kR x) b2 hb2 _ hc2 rfl
      simp only [Prod.mk.injEq] at hc3
      obtain ⟨rfl, rfl, rfl, rfl, rfl, rfl, _⟩ := hc3
      refine ⟨?_, by omega, by omega, by omega, by omega, ?_⟩
      · unfold fm
        have e0 : decide (0 ≤ x ∧ x ≤ 5) = true := decide_eq_true ⟨by omega, c2⟩
        rw [e0]
        cases hk1 : kD x <;> cases hk2 : kS x <;> cases hk3 : kR x <;> simp [hk1, hk2, hk3] at hz1 hz2 hz3 ⊢ <;> simp [*]
      · rw [Int.toNat_natCast, hh3, hh2, hh1, ← h3]
        unfold putS
        have e3 : (if (x3 % 2 == 1) = true then 2 * (x3 / 2) + 1 else 2 * (x3 / 2)) = x3 := by
          by_cases c : x3 % 2 = 1
          · rw [if_pos (by simpa using c)]; omega
          · rw [if_neg (by simpa using c)]; omega
        rw [e3]
    · rw [if_neg c2] at h; simp at h
  · rw [if_neg c1] at h
    simp only [Prod.mk.injEq] at h
    exact absurd h.2.2.2.2.2.2 c1
theorem putS_bytes (n d q r : Int) (m : Bool) : ∀ x ∈ putS n d q r m, 0 ≤ x ∧ x < 256 := by
  unfold putS
  intro x hx
  simp only [List.mem_append] at hx
  rcases hx with ((hx | hx) | hx) | hx
  · exact putL_bytes _ x hx
  · split at hx
    · exact putL_bytes _ x hx
    · simp at hx
  · split at hx
    · exact putL_bytes _ x hx
    · simp at hx
  · split at hx
    · exact putL_bytes _ x hx
    · simp at hx
theorem StmtBack : easementlaw18_StmtBack.Pure := by
  intro n d q r m s _ _
  refine ⟨60, ?_⟩
  unfold easementlaw18_StmtBack.f
  rw [sawake_eq 60 (by omega)]
  by_cases c : (s.size : Int) > 300
  · rw [if_pos c]; rfl
  rw [if_neg c, stake_eq s (by omega) 60 (by omega)]
  simp only [Option.bind_some]
  have aw : easementlaw18_StmtBack.j1 59 s true n d q r m = some true := by
    simp only [easementlaw18_StmtBack.j1, if_true]
    rw [sawake_eq 58 (by omega)]; rfl
  have rest : easementlaw18_StmtBack.j0 60 s false n d q r m = some true := by
    simp only [easementlaw18_StmtBack.j0]
    rw [if_neg (by simp)]
    by_cases h1 : d < 0
    · rw [if_pos h1]; exact aw
    rw [if_neg h1]
    by_cases h2 : q < 0
    · rw [if_pos h2]; exact aw
    rw [if_neg h2]
    by_cases h3 : r < 0
    · rw [if_pos h3]; exact aw
    rw [if_neg h3]
    by_cases h4 : d ≥ 2147483648
    · rw [if_pos h4]; exact aw
    rw [if_neg h4]
    by_cases h5 : q ≥ 2147483648
    · rw [if_pos h5]; exact aw
    rw [if_neg h5]
    by_cases h6 : r ≥ 2147483648
    · rw [decide_eq_true h6]; exact aw
    rw [decide_eq_false h6]
    simp only [easementlaw18_StmtBack.j1]
    rw [if_neg (by simp), sput_eq n d q r m (by omega) (by omega) 58 (by omega)]
    simp only [Option.bind_some]
    cases hf : fm n d q r m with
    | false =>
      simp only [Bool.false_eq_true, if_false]
      rw [if_neg (by decide), if_pos (by decide +kernel), sawake_eq 58 (by omega)]
      rfl
    | true =>
      simp only [if_true]
      have hl : (putS n d q r m).length ≤ 20 := by
        unfold putS
        have a1 := putL_len n
        have a2 := putL_len d
        have a3 := putL_len q
        have a4 := putL_len (if m = true then 2 * r + 1 else 2 * r)
        simp only [List.length_append]
        have b2 : (if kD n = true then putL d else []).length ≤ 5 := by split <;> simp [a2]
        have b3 : (if kS n = true then putL q else []).length ≤ 5 := by split <;> simp [a3]
        have b4 : (if kR n = true then putL (if m = true then 2 * r + 1 else 2 * r) else []).length ≤ 5 := by split <;> simp [a4]
        omega
      rw [strOf_size, if_pos (by omega), stake_eq _ (by rw [ByteArray.size_append, strOf_size]; omega) 58 (by omega), back n d q r m s hf (by omega) (by omega) (by omega) (by omega) (by omega) (by omega)]
      simp only [Option.bind_some]
      rw [if_pos trivial, if_pos trivial, if_pos (by simp), sawake_eq 58 (by omega)]
      rfl
  by_cases h0 : (tkS s).2.2.2.2.2.2 = 0
  · obtain ⟨x1, x2, x3, x4, x5, x6, e⟩ : ∃ x1 x2 x3 x4 x5 x6, tkS s = (x1, x2, x3, x4, x5, x6, 0) := ⟨_, _, _, _, _, _, by rw [← h0]⟩
    obtain ⟨hf, hr0, hr1, he0, he1, hp⟩ := fore s e
    rw [e]
    simp only
    rw [sput_eq x1 x2 x3 x4 x5 hr0 hr1 60 (by omega), hf]
    simp only [Option.bind_some, if_true]
    rw [if_pos he0, if_pos he1, extract_toList, strOf_toList, take_head s _ (by omega), hp]
    have e2 : (((head s x6.toNat).map fun n => UInt8.ofNat n.toNat) != ((head s x6.toNat).map fun n => UInt8.ofNat n.toNat)) = false := by simp
    rw [e2]
    exact rest
  · have hreg : 0 ≤ (tkS s).2.2.2.1 ∧ (tkS s).2.2.2.1 < 2147483648 := by
      have hz : ∀ (D : Bool) (a : Int) (c : Int → Int → R7), (∀ x b, 0 ≤ x → x ≤ 4294967295 → 0 ≤ (c x b).2.2.2.1 ∧ (c x b).2.2.2.1 < 2147483648) → 0 ≤ (fs s D a c).2.2.2.1 ∧ (fs s D a c).2.2.2.1 < 2147483648 := by
        intro D a c hc
        have hr := tk_range (s.extract a.toNat s.size)
        unfold fs
        split
        · split
          · exact hc _ _ hr.1 hr.2.1
          · simp
        · exact hc _ _ (by omega) (by omega)
      unfold tkS
      split
      · split
        · exact hz _ _ _ fun x b _ _ => hz _ _ _ fun y b _ _ => hz _ _ _ fun z b hz0 hz1 => by simp only; omega
        · simp
      · simp
    rw [sput_eq _ _ _ _ _ hreg.1 hreg.2 60 (by omega)]
    simp only [Option.bind_some]
    rw [if_neg h0]
    exact rest

end Go.Proofs.Ythhebinonpoddaa.Pure
