/- Pure part of GTermBack: what was put is taken as it was, and what is taken is, put, the bytes that were taken -/
import Derived.Test.YthhebinonpoddaaGTermBackxopen
import Derived.Laws.BitsLemmas
namespace Go.Proofs.Ythhebinonpoddaa.Pure
open Go.RowKit Go.Proofs.Ythhebinonpoddaa.GTermBack Go.Proofs.YthhebinonpoddaaW.PrintWords Go.Proofs.YthhebinonpoddaaW.PrintLast
set_option linter.unusedSimpArgs false
set_option linter.unusedVariables false

/-! plain facts on numbers as bytes -/
theorem w64 (n : Int) (h0 : -9223372036854775808 ≤ n) (h1 : n < 9223372036854775808) : wrap64 n = n := by unfold wrap64; omega
/-- how many bytes follow -/
def mo (n : Int) : Int := if n < 248 then 0 else if n < 256 then 1 else if n < 65536 then 2 else if n < 16777216 then 3 else 4
theorem more_eq (n : Int) (h0 : 0 ≤ n) (h1 : n ≤ 4294967295) (k : Nat) (hk : 6 ≤ k) : leb_more.f k n = some (mo n) := by
  obtain ⟨m, rfl⟩ : ∃ m, k = m + 6 := ⟨k - 6, by omega⟩
  unfold leb_more.f mo
  have e1 : wrap64 (0 + 1) = 1 := by decide +kernel
  have e2 : wrap64 (1 + 1) = 2 := by decide +kernel
  have e3 : wrap64 (2 + 1) = 3 := by decide +kernel
  have e4 : wrap64 (3 + 1) = 4 := by decide +kernel
  simp only [leb_more.l0, e1, e2, e3, e4]
  by_cases c : n < 248
  · rw [if_neg (by omega), if_pos c]
  rw [if_pos (by omega), if_pos (by omega), if_neg c]
  by_cases c : n < 256
  · rw [if_pos (by omega), if_neg (by omega), if_pos c]
  rw [if_pos (by omega), if_pos (by omega), if_neg c]
  by_cases c : n < 65536
  · rw [if_pos (by omega), if_neg (by omega), if_pos c]
  rw [if_pos (by omega), if_pos (by omega), if_neg c]
  by_cases c : n < 16777216
  · rw [if_pos (by omega), if_neg (by omega), if_pos c]
  rw [if_pos (by omega), if_pos (by omega), if_neg c]
  rw [if_pos (by omega), if_neg (by omega)]
/-- a number's bytes -/
def putL (n : Int) : List Int := if n < 0 then [] else if n > 4294967295 then [] else if n < 248 then [n] else if n < 256 then [248, n] else if n < 65536 then [249, n / 256, n % 256] else if n < 16777216 then [250, n / 65536, n / 256 % 256, n % 256] else [251, n / 16777216, n / 65536 % 256, n / 256 % 256, n % 256]
theorem putL_none {n : Int} (h : n < 0 ∨ n > 4294967295) : putL n = [] := by
  unfold putL
  rcases h with h | h
  · rw [if_pos h]
  · rw [if_neg (by omega), if_pos h]
theorem strOf_nil : strOfNums [] = (⟨#[]⟩ : ByteArray) := rfl
theorem put_eq (n : Int) (k : Nat) (hk : 6 ≤ k) : leb_Put.f k n = some (strOfNums (putL n)) := by
  unfold leb_Put.f leb_Size.f
  by_cases c0 : n < 0
  · rw [if_pos c0, putL_none (.inl c0)]
    simp only [Option.bind_some]
    rw [if_pos (by decide +kernel), strOf_nil]
  rw [if_neg c0]
  by_cases c1 : n > 4294967295
  · rw [if_pos c1, putL_none (.inr c1)]
    simp only [Option.bind_some]
    rw [if_pos (by decide +kernel), strOf_nil]
  rw [if_neg c1, more_eq n (by omega) (by omega) k hk]
  simp only [Option.bind_some]
  unfold putL
  rw [if_neg c0, if_neg c1]
  obtain ⟨m, rfl⟩ : ∃ m, k = m + 6 := ⟨k - 6, by omega⟩
  unfold mo
  by_cases c : n < 248
  · rw [if_pos c, if_pos c, if_neg (by decide +kernel), if_pos (by decide +kernel), show n % 256 = n by omega]
  rw [if_neg c, if_neg c]
  by_cases c : n < 256
  · rw [if_pos c, if_pos c]
    rw [show wrap64 (wrap64 (1 + 1) - 1) = 1 by decide +kernel, if_neg (by decide +kernel), if_neg (by decide +kernel), if_pos (by decide +kernel), if_pos (by decide +kernel)]
    simp only [leb_Put.l0, show wrap64 (1 - 1) = 0 by decide +kernel, show wrap64 (1 + 1) = 2 by decide +kernel, show wrap64 (247 + 1) = 248 by decide +kernel]
    simp [List.replicate, show n % 256 = n by omega]
  rw [if_neg c, if_neg c]
  by_cases c : n < 65536
  · rw [if_pos c, if_pos c]
    rw [show wrap64 (wrap64 (1 + 2) - 1) = 2 by decide +kernel, if_neg (by decide +kernel), if_neg (by decide +kernel), if_pos (by decide +kernel), if_pos (by decide +kernel)]
    simp only [leb_Put.l0, show wrap64 (1 - 1) = 0 by decide +kernel, show wrap64 (2 - 1) = 1 by decide +kernel, show wrap64 (1 + 2) = 3 by decide +kernel, show wrap64 (247 + 2) = 249 by decide +kernel]
    simp [List.replicate, show n / 256 % 256 = n / 256 by omega]
  rw [if_neg c, if_neg c]
  by_cases c : n < 16777216
  · rw [if_pos c, if_pos c]
    rw [show wrap64 (wrap64 (1 + 3) - 1) = 3 by decide +kernel, if_neg (by decide +kernel), if_neg (by decide +kernel), if_pos (by decide +kernel), if_pos (by decide +kernel)]
    simp only [leb_Put.l0, show wrap64 (1 - 1) = 0 by decide +kernel, show wrap64 (2 - 1) = 1 by decide +kernel, show wrap64 (3 - 1) = 2 by decide +kernel, show wrap64 (1 + 3) = 4 by decide +kernel, show wrap64 (247 + 3) = 250 by decide +kernel]
    simp [List.replicate, show n / 256 / 256 % 256 = n / 65536 by omega]
  rw [if_neg c, if_neg c]
  rw [show wrap64 (wrap64 (1 + 4) - 1) = 4 by decide +kernel, if_neg (by decide +kernel), if_neg (by decide +kernel), if_pos (by decide +kernel), if_pos (by decide +kernel)]
  simp only [leb_Put.l0, show wrap64 (1 - 1) = 0 by decide +kernel, show wrap64 (2 - 1) = 1 by decide +kernel, show wrap64 (3 - 1) = 2 by decide +kernel, show wrap64 (4 - 1) = 3 by decide +kernel, show wrap64 (1 + 4) = 5 by decide +kernel, show wrap64 (247 + 4) = 251 by decide +kernel]
  simp [List.replicate, show n / 256 / 256 / 256 % 256 = n / 16777216 by omega, show n / 256 / 256 % 256 = n / 65536 % 256 by omega]
/-- all are bytes -/
theorem putL_bytes (n : Int) : ∀ x ∈ putL n, 0 ≤ x ∧ x < 256 := by
  unfold putL
  intro x hx
  repeat' split at hx
  all_goals simp at hx
  all_goals omega
theorem strOf_toList (l : List Int) : (strOfNums l).toList = l.map fun n => UInt8.ofNat n.toNat := by
  simp [strOfNums]
theorem strOf_append (a b : List Int) : strOfNums a ++ strOfNums b = strOfNums (a ++ b) := by
  apply ByteArray.ext
  simp [strOfNums]
theorem strOf_size (a : List Int) : (strOfNums a).size = a.length := by simp [strOfNums, ByteArray.size]
/-- so many bytes of s from place i on, behind n -/
def fold (s : ByteArray) : Nat → Int → Int → Int
  | 0, _, n => n
  | d + 1, i, n => fold s d (i + 1) (n * 256 + bt s i)
def Below256 (i n : Int) : Prop := 0 ≤ n ∧ (i = 1 → n = 0) ∧ (i = 2 → n < 256) ∧ (i = 3 → n < 65536) ∧ (i = 4 → n < 16777216) ∧ (i = 5 → n < 4294967296)
theorem or256 {n b : Int} (h0 : 0 ≤ n) (h1 : n < 16777216) (b0 : 0 ≤ b) (b1 : b < 256) : Go.bits .or .i64 (wrap64 (n * 256)) (wrap64 b) = n * 256 + b := by
  rw [w64 _ (by omega) (by omega), w64 _ (by omega) (by omega)]
  exact bits_join .i64 40 (by decide +kernel) (fun m _ h => by have h' : m < 1099511627776 := h; exact IntWalk.i64_in m (by omega)) 8 _ _ (by omega) (by omega) (by omega) (by omega) (by omega) (by omega)
theorem below_next {s : ByteArray} {i n : Int} (hi : 1 ≤ i) (h4 : i ≤ 4) (hb : Below256 i n) : Below256 (i + 1) (n * 256 + bt s i) ∧ n < 16777216 := by
  have hr := bt_range s i
  unfold Below256 at hb ⊢
  obtain ⟨h0, h1, h2, h3, h5, h6⟩ := hb
  refine ⟨⟨by omega, fun h => by omega, fun h => ?_, fun h => ?_, fun h => ?_, fun h => ?_⟩, by omega⟩
  · have := h1 (by omega); omega
  · have := h2 (by omega); omega
  · have := h3 (by omega); omega
  · have := h5 (by omega); omega
theorem fold_below (s : ByteArray) : ∀ (d : Nat) (i n : Int), 1 ≤ i → i + d ≤ 5 → Below256 i n → Below256 (i + d) (fold s d i n)
  | 0, i, n, _, _, hb => by simpa [fold] using hb
  | d + 1, i, n, h1, h5, hb => by
    have := fold_below s d (i + 1) (n * 256 + bt s i) (by omega) (by omega) (below_next h1 (by omega) hb).1
    have e : i + ((d + 1 : Nat) : Int) = i + 1 + (d : Int) := by omega
    rw [e]; exact this
theorem loop_take (s : ByteArray) (q : Int) (hq : q ≤ 4) (hs : q < s.size) (hq1 : 1 ≤ q) : ∀ (d k : Nat) (i n : Int), i + d = q + 1 → 1 ≤ i → Below256 i n → d + 7 ≤ k →
    leb_Take.l0 k s q n i = (if mo (fold s d i n) = q then some (fold s d i n, 1 + q, 0) else some (0, 0, 3))
  | 0, k, i, n, hd, h1, hb, hk => by
    obtain ⟨k, rfl⟩ : ∃ m, k = m + 1 := ⟨k - 1, by omega⟩
    have hi : i = q + 1 := by omega
    simp only [leb_Take.l0]
    rw [if_neg (by omega)]
    unfold Below256 at hb
    rw [more_eq n hb.1 (by omega) k (by omega), w64 (1 + q) (by omega) (by omega)]
    rfl
  | d + 1, k, i, n, hd, h1, hb, hk => by
    obtain ⟨k, rfl⟩ : ∃ m, k = m + 1 := ⟨k - 1, by omega⟩
    have hbn := below_next (s := s) h1 (by omega) hb
    have hr := bt_range s i
    simp only [leb_Take.l0]
    rw [if_pos (by omega), if_pos (by omega), if_pos (by omega), or256 hb.1 hbn.2 hr.1 (by omega), w64 (i + 1) (by omega) (by omega)]
    exact loop_take s q hq hs hq1 d k (i + 1) _ (by omega) (by omega) hbn.1 (by omega)
/-- what bytes begin with -/
def tk (s : ByteArray) : Int × Int × Int :=
  if s.size = 0 then (0, 0, 4) else if bt s 0 < 248 then (bt s 0, 1, 0) else if bt s 0 > 251 then (0, 0, 3) else
  if (s.size : Int) ≤ bt s 0 - 247 then (0, 0, 4) else
  if mo (fold s (bt s 0 - 247).toNat 1 0) = bt s 0 - 247 then (fold s (bt s 0 - 247).toNat 1 0, 1 + (bt s 0 - 247), 0) else (0, 0, 3)
theorem nil_iff (s : ByteArray) : s.toList = [] ↔ s.size = 0 := by
  rw [ByteArray.toList_eq]
  have : s.size = s.data.toList.length := Array.length_toList.symm
  rw [this, List.length_eq_zero_iff]
theorem take_eq (s : ByteArray) (k : Nat) (hk : 12 ≤ k) : leb_Take.f k s = some (tk s) := by
  have hr := bt_range s 0
  unfold leb_Take.f tk
  by_cases c : s.size = 0
  · rw [if_pos ((nil_iff s).2 c), if_pos c]
  rw [if_neg (fun h => c ((nil_iff s).1 h)), if_neg c, if_pos (by omega), w64 (bt s 0) (by omega) (by omega), w64 (bt s 0 - 248) (by omega) (by omega), w64 _ (by omega) (by omega)]
  by_cases c1 : bt s 0 < 248
  · rw [if_pos (by omega), if_pos c1]
  rw [if_neg (by omega), if_neg c1]
  by_cases c2 : bt s 0 > 251
  · rw [if_pos (by omega), if_pos c2]
  rw [if_neg (by omega), if_neg c2]
  have e : bt s 0 - 248 + 1 = bt s 0 - 247 := by omega
  rw [e]
  by_cases c3 : (s.size : Int) ≤ bt s 0 - 247
  · rw [if_pos c3, if_pos c3]
  rw [if_neg c3, if_neg c3, loop_take s (bt s 0 - 247) (by omega) (by omega) (by omega) (bt s 0 - 247).toNat k 1 0 (by omega) (by omega) ⟨by omega, by omega, by omega, by omega, by omega, by omega⟩ (by omega)]
  split <;> rfl
theorem u8_inj {a b : Int} (a0 : 0 ≤ a) (a1 : a < 256) (b0 : 0 ≤ b) (b1 : b < 256) : UInt8.ofNat a.toNat = UInt8.ofNat b.toNat ↔ a = b := by
  constructor
  · intro h
    have h' := congrArg UInt8.toNat h
    simp only [UInt8.toNat_ofNat'] at h'
    omega
  · intro h; rw [h]
theorem getD_bt (s : ByteArray) (i : Nat) (h : i < s.size) : s.toList[i]? = some (UInt8.ofNat (bt s i).toNat) := by
  rw [ByteArray.toList_eq, Array.getElem?_toList, Array.getElem?_eq_getElem (by simpa using h)]
  unfold bt
  rw [dif_pos (by simpa using h)]
  congr 1
  simp [ByteArray.getElem_eq_getElem_data]
theorem extract_toList (s : ByteArray) (k : Nat) : (s.extract 0 k).toList = s.toList.take k := by
  rw [ByteArray.toList_eq, ByteArray.toList_eq, ByteArray.data_extract]
  simp
theorem map_inj : ∀ (l m : List Int), (∀ x ∈ l, 0 ≤ x ∧ x < 256) → (∀ x ∈ m, 0 ≤ x ∧ x < 256) → (l.map (fun n => UInt8.ofNat n.toNat) = m.map (fun n => UInt8.ofNat n.toNat) ↔ l = m)
  | [], [], _, _ => by simp
  | [], _ :: _, _, _ => by simp
  | _ :: _, [], _, _ => by simp
  | a :: l, b :: m, hl, hm => by
    have ha := hl a (by simp)
    have hb := hm b (by simp)
    simp only [List.map_cons, List.cons.injEq, u8_inj ha.1 ha.2 hb.1 hb.2, map_inj l m (fun x hx => hl x (by simp [hx])) (fun x hx => hm x (by simp [hx]))]
/-- the first bytes, as numbers -/
def head (s : ByteArray) : Nat → List Int
  | 0 => []
  | k + 1 => head s k ++ [bt s k]
theorem head_bytes (s : ByteArray) : ∀ k, ∀ x ∈ head s k, 0 ≤ x ∧ x < 256
  | 0, x, h => by simp [head] at h
  | k + 1, x, h => by
    simp only [head, List.mem_append, List.mem_singleton] at h
    rcases h with h | h
    · exact head_bytes s k x h
    · have := bt_range s k; omega
theorem take_head (s : ByteArray) : ∀ k, k ≤ s.size → s.toList.take k = (head s k).map fun n => UInt8.ofNat n.toNat
  | 0, _ => by simp [head]
  | k + 1, h => by
    rw [List.take_add_one, take_head s k (by omega), getD_bt s k (by omega)]
    simp [head]
/-- as many bytes as the number has: just if they are the number's -/
theorem mo_put (s : ByteArray) (q : Nat) (h1 : 1 ≤ q) (h4 : q ≤ 4) (h0 : bt s 0 = 247 + q) : mo (fold s q 1 0) = q ↔ putL (fold s q 1 0) = head s (1 + q) := by
  have r1 := bt_range s 1
  have r2 := bt_range s 2
  have r3 := bt_range s 3
  have r4 := bt_range s 4
  have h0' : bt s ((0 : Nat) : Int) = 247 + q := h0
  obtain rfl | rfl | rfl | rfl : q = 1 ∨ q = 2 ∨ q = 3 ∨ q = 4 := by omega
  all_goals simp only [fold, head, List.nil_append, List.cons_append, h0']
  all_goals simp only [Int.reduceAdd, Int.natCast_one, Int.zero_add, Int.zero_mul]
  · generalize bt s 1 = b1 at *
    unfold mo putL
    repeat' split
    all_goals simp
    all_goals omega
  · generalize bt s 1 = b1 at *
    generalize bt s 2 = b2 at *
    unfold mo putL
    repeat' split
    all_goals simp
    all_goals omega
  · generalize bt s 1 = b1 at *
    generalize bt s 2 = b2 at *
    generalize bt s 3 = b3 at *
    unfold mo putL
    repeat' split
    all_goals simp
    all_goals omega
  · generalize bt s 1 = b1 at *
    generalize bt s 2 = b2 at *
    generalize bt s 3 = b3 at *
    generalize bt s 4 = b4 at *
    unfold mo putL
    repeat' split
    all_goals simp
    all_goals omega
theorem bt_append (l : List Int) (hl : ∀ x ∈ l, 0 ≤ x ∧ x < 256) (s : ByteArray) (i : Nat) (h : i < l.length) : bt (strOfNums l ++ s) i = l[i] := by
  have hb := hl l[i] (List.getElem_mem h)
  have hs : i < (strOfNums l ++ s).size := by rw [ByteArray.size_append, strOf_size]; omega
  have e := getD_bt (strOfNums l ++ s) i hs
  have ht : (strOfNums l ++ s).toList = (l.map fun n => UInt8.ofNat n.toNat) ++ s.toList := by
    rw [ByteArray.toList_eq, ByteArray.toList_eq]; simp [strOfNums]
  rw [ht, List.getElem?_append_left (by simpa using h), List.getElem?_map, List.getElem?_eq_getElem h] at e
  simp only [Option.map_some, Option.some.injEq] at e
  have hr := bt_range (strOfNums l ++ s) i
  exact ((u8_inj hb.1 hb.2 hr.1 (by omega)).1 e).symm
theorem put_some {n : Int} (h0 : 0 ≤ n) (h1 : n ≤ 4294967295) : (putL n).length = 1 + (mo n).toNat ∧ 0 ≤ mo n ∧ mo n ≤ 4 ∧ (mo n = 0 ↔ n < 248) := by
  unfold putL mo
  rw [if_neg (show ¬ n < 0 by omega), if_neg (show ¬ n > 4294967295 by omega)]
  repeat' split
  all_goals simp
  all_goals omega
theorem tk_put {n : Int} (h0 : 0 ≤ n) (h1 : n ≤ 4294967295) (s : ByteArray) : tk (strOfNums (putL n) ++ s) = (n, ((putL n).length : Int), 0) := by
  have hb := putL_bytes n
  have hp := put_some h0 h1
  have hz : (strOfNums (putL n) ++ s).size = (putL n).length + s.size := by rw [ByteArray.size_append, strOf_size]
  have B := bt_append (putL n) hb s
  generalize hS : strOfNums (putL n) ++ s = S at *
  have b0 : bt S 0 = bt S ((0 : Nat) : Int) := rfl
  have b1 : bt S 1 = bt S ((1 : Nat) : Int) := rfl
  have b2 : bt S 2 = bt S ((2 : Nat) : Int) := rfl
  have b3 : bt S 3 = bt S ((3 : Nat) : Int) := rfl
  have b4 : bt S 4 = bt S ((4 : Nat) : Int) := rfl
  unfold tk
  rw [if_neg (by omega)]
  by_cases c0 : n < 248
  · have e : putL n = [n] := by unfold putL; rw [if_neg (by omega), if_neg (by omega), if_pos c0]
    have e0 : bt S 0 = n := by rw [b0, B 0 (by rw [e]; simp)]; simp [e]
    rw [e0, if_pos c0, e]; rfl
  by_cases c1 : n < 256
  · have e : putL n = [248, n] := by unfold putL; rw [if_neg (by omega), if_neg (by omega), if_neg c0, if_pos c1]
    have e0 : bt S 0 = 248 := by rw [b0, B 0 (by rw [e]; simp)]; simp [e]
    have e1 : bt S 1 = n := by rw [b1, B 1 (by rw [e]; simp)]; simp [e]
    rw [e] at hz
    simp at hz
    rw [e0, if_neg (by omega), if_neg (by omega), if_neg (by omega), show ((248 : Int) - 247).toNat = 1 by omega]
    have hf : fold S 1 1 0 = n := by simp only [fold, e1]; omega
    rw [hf, if_pos (by unfold mo; rw [if_neg c0, if_pos c1]; omega), e]; rfl
  by_cases c2 : n < 65536
  · have e : putL n = [249, n / 256, n % 256] := by unfold putL; rw [if_neg (by omega), if_neg (by omega), if_neg c0, if_neg c1, if_pos c2]
    have e0 : bt S 0 = 249 := by rw [b0, B 0 (by rw [e]; simp)]; simp [e]
    have e1 : bt S 1 = n / 256 := by rw [b1, B 1 (by rw [e]; simp)]; simp [e]
    have e2 : bt S 2 = n % 256 := by rw [b2, B 2 (by rw [e]; simp)]; simp [e]
    rw [e] at hz
    simp at hz
    rw [e0, if_neg (by omega), if_neg (by omega), if_neg (by omega), show ((249 : Int) - 247).toNat = 2 by omega]
    have hf : fold S 2 1 0 = n := by simp only [fold, e1, Int.reduceAdd, e2]; omega
    rw [hf, if_pos (by unfold mo; rw [if_neg c0, if_neg c1, if_pos c2]; omega), e]; rfl
  by_cases c3 : n < 16777216
  · have e : putL n = [250, n / 65536, n / 256 % 256, n % 256] := by unfold putL; rw [if_neg (by omega), if_neg (by omega), if_neg c0, if_neg c1, if_neg c2, if_pos c3]
    have e0 : bt S 0 = 250 := by rw [b0, B 0 (by rw [e]; simp)]; simp [e]
    have e1 : bt S 1 = n / 65536 := by rw [b1, B 1 (by rw [e]; simp)]; simp [e]
    have e2 : bt S 2 = n / 256 % 256 := by rw [b2, B 2 (by rw [e]; simp)]; simp [e]
    have e3 : bt S 3 = n % 256 := by rw [b3, B 3 (by rw [e]; simp)]; simp [e]
    rw [e] at hz
    simp at hz
    rw [e0, if_neg (by omega), if_neg (by omega), if_neg (by omega), show ((250 : Int) - 247).toNat = 3 by omega]
    have hf : fold S 3 1 0 = n := by simp only [fold, e1, Int.reduceAdd, e2, e3]; omega
    rw [hf, if_pos (by unfold mo; rw [if_neg c0, if_neg c1, if_neg c2, if_pos c3]; omega), e]; rfl
  have e : putL n = [251, n / 16777216, n / 65536 % 256, n / 256 % 256, n % 256] := by unfold putL; rw [if_neg (by omega), if_neg (by omega), if_neg c0, if_neg c1, if_neg c2, if_neg c3]
  have e0 : bt S 0 = 251 := by rw [b0, B 0 (by rw [e]; simp)]; simp [e]
  have e1 : bt S 1 = n / 16777216 := by rw [b1, B 1 (by rw [e]; simp)]; simp [e]
  have e2 : bt S 2 = n / 65536 % 256 := by rw [b2, B 2 (by rw [e]; simp)]; simp [e]
  have e3 : bt S 3 = n / 256 % 256 := by rw [b3, B 3 (by rw [e]; simp)]; simp [e]
  have e4 : bt S 4 = n % 256 := by rw [b4, B 4 (by rw [e]; simp)]; simp [e]
  rw [e] at hz
  simp at hz
  rw [e0, if_neg (by omega), if_neg (by omega), if_neg (by omega), show ((251 : Int) - 247).toNat = 4 by omega]
  have hf : fold S 4 1 0 = n := by simp only [fold, e1, Int.reduceAdd, e2, e3, e4]; omega
  rw [hf, if_pos (by unfold mo; rw [if_neg c0, if_neg c1, if_neg c2, if_neg c3]; omega), e]; rfl
theorem tk_ok {s : ByteArray} {y j : Int} (h : tk s = (y, j, 0)) : 1 ≤ j ∧ j ≤ s.size ∧ putL y = head s j.toNat := by
  have hr := bt_range s 0
  unfold tk at h
  by_cases c : s.size = 0
  · rw [if_pos c] at h; simp at h
  rw [if_neg c] at h
  by_cases c1 : bt s 0 < 248
  · rw [if_pos c1] at h
    simp only [Prod.mk.injEq, and_true] at h
    obtain ⟨rfl, rfl⟩ := h
    refine ⟨by omega, by omega, ?_⟩
    unfold putL
    rw [if_neg (by omega), if_neg (by omega), if_pos c1]
    simp [head]
  rw [if_neg c1] at h
  by_cases c2 : bt s 0 > 251
  · rw [if_pos c2] at h; simp at h
  rw [if_neg c2] at h
  by_cases c3 : (s.size : Int) ≤ bt s 0 - 247
  · rw [if_pos c3] at h; simp at h
  rw [if_neg c3] at h
  by_cases c4 : mo (fold s (bt s 0 - 247).toNat 1 0) = bt s 0 - 247
  · rw [if_pos c4] at h
    simp only [Prod.mk.injEq, and_true] at h
    obtain ⟨rfl, rfl⟩ := h
    refine ⟨by omega, by omega, ?_⟩
    have key := mo_put s (bt s 0 - 247).toNat (by omega) (by omega) (by omega)
    rw [show (1 + (bt s 0 - 247)).toNat = 1 + (bt s 0 - 247).toNat by omega]
    exact key.1 (by omega)
  · rw [if_neg c4] at h; simp at h
/-- What a number at the begin is: its range. -/
theorem tk_range (s : ByteArray) : 0 ≤ (tk s).1 ∧ (tk s).1 ≤ 4294967295 ∧ 0 ≤ (tk s).2.1 ∧ (tk s).2.1 ≤ s.size ∧ (tk s).2.1 ≤ 5 := by
  have hr := bt_range s 0
  unfold tk
  split
  · simp
  split
  · rename_i c c1; simp only; omega
  split
  · simp
  split
  · simp
  split
  · rename_i c c1 c2 c3 c4
    have hb := fold_below s (bt s 0 - 247).toNat 1 0 (by omega) (by omega) ⟨by omega, by omega, by omega, by omega, by omega, by omega⟩
    unfold Below256 at hb
    obtain ⟨b0, b1, b2, b3, b4, b5⟩ := hb
    simp only
    refine ⟨b0, ?_, by omega, by omega, by omega⟩
    have : bt s 0 - 247 = 1 ∨ bt s 0 - 247 = 2 ∨ bt s 0 - 247 = 3 ∨ bt s 0 - 247 = 4 := by omega
    rcases this with h | h | h | h
    · have := b2 (by omega); omega
    · have := b3 (by omega); omega
    · have := b4 (by omega); omega
    · have := b5 (by omega); omega
  · simp
theorem ext_size (s : ByteArray) (a : Int) (h0 : 0 ≤ a) (h1 : a ≤ s.size) : ((s.extract a.toNat s.size).size : Int) = s.size - a := by
  rw [ByteArray.size_extract]; omega
/-! several numbers as bytes -/
theorem bytesOf_strOf (l : List Int) (h : ∀ x ∈ l, 0 ≤ x ∧ x < 256) : bytesOf (strOfNums l) = l := by
  unfold bytesOf strOfNums
  simp only [List.map_map]
  conv => rhs; rw [← List.map_id l]
  apply List.map_congr_left
  intro x hx
  have := h x hx
  simp only [Function.comp_apply, UInt8.toNat_ofNat', id]
  omega
/-- the bytes of several -/
def allL (l : List Int) : List Int := (l.map putL).flatten
theorem allL_cons (x : Int) (r : List Int) : allL (x :: r) = putL x ++ allL r := by simp [allL]
theorem allL_bytes (l : List Int) : ∀ x ∈ allL l, 0 ≤ x ∧ x < 256 := by
  intro x hx
  simp only [allL, List.mem_flatten, List.mem_map] at hx
  obtain ⟨_, ⟨n, _, rfl⟩, hx⟩ := hx
  exact putL_bytes n x hx
theorem putL_len (n : Int) : (putL n).length ≤ 5 := by
  unfold putL
  repeat' split
  all_goals simp
theorem rd_eq {l : List Int} {i : Nat} (h : i < l.length) : rd l (i : Int) = l[i] := by
  unfold rd; simp [List.getD_eq_getElem?_getD, List.getElem?_eq_getElem h]
theorem all_loop (l : List Int) (hl : l.length ≤ 100) : ∀ (d : Nat) (i : Nat) (k : Nat) (acc : List Int), i + d = l.length → d + 10 ≤ k → acc.length ≤ 5 * i → leb_All.l0 k acc l (l.length : Int) (i : Int) = some (strOfNums (acc ++ allL (l.drop i)))
  | 0, i, k, acc, hd, hk, _ => by
    obtain ⟨k, rfl⟩ : ∃ m, k = m + 1 := ⟨k - 1, by omega⟩
    simp only [leb_All.l0]
    rw [if_neg (by omega), List.drop_eq_nil_of_le (by omega)]
    simp [allL]
  | d + 1, i, k, acc, hd, hk, ha => by
    obtain ⟨k, rfl⟩ : ∃ m, k = m + 1 := ⟨k - 1, by omega⟩
    simp only [leb_All.l0]
    have hi : i < l.length := by omega
    have hp := putL_len l[i]
    rw [if_pos (by omega), if_pos (by omega), if_pos (by omega), rd_eq hi, put_eq _ k (by omega)]
    simp only [Option.bind_some]
    rw [strOf_size, if_pos (by omega), bytesOf_strOf _ (putL_bytes _), w64 _ (by omega) (by omega)]
    have e : (i : Int) + 1 = ((i + 1 : Nat) : Int) := by omega
    rw [e, all_loop l hl d (i + 1) k _ (by omega) (by omega) (by rw [List.length_append]; omega), List.append_assoc, List.drop_eq_getElem_cons hi, allL_cons]
theorem cut_off (P Q : List Int) (s : ByteArray) : (strOfNums (P ++ Q) ++ s).extract P.length (strOfNums (P ++ Q) ++ s).size = strOfNums Q ++ s := by
  rw [← strOf_append, ByteArray.append_assoc]
  exact ByteArray.extract_append_eq_right (strOf_size P).symm (by rw [ByteArray.size_append])
theorem bt_cut (s : ByteArray) (a i : Nat) (h : a + i < s.size) : bt (s.extract a s.size) (i : Int) = bt s ((a + i : Nat) : Int) := by
  unfold bt
  have h1 : ((i : Int)).toNat < (s.extract a s.size).size := by rw [ByteArray.size_extract]; omega
  have h2 : (((a + i : Nat) : Int)).toNat < s.size := by omega
  rw [dif_pos h1, dif_pos h2]
  have e2 : ((a : Int) + (i : Int)).toNat = a + i := by omega
  simp [ByteArray.getElem_extract, e2]
theorem head_add (s : ByteArray) (a : Nat) : ∀ j, a + j ≤ s.size → head s (a + j) = head s a ++ head (s.extract a s.size) j
  | 0, _ => by simp [head]
  | j + 1, h => by
    show head s (a + j) ++ [bt s ((a + j : Nat) : Int)] = head s a ++ (head (s.extract a s.size) j ++ [bt (s.extract a s.size) (j : Int)])
    rw [head_add s a j (by omega), bt_cut s a j (by omega), List.append_assoc]
/-! terminators as bytes: taken -/
/-- The next number at place a, if there is no error yet. -/
def nm (s : ByteArray) (a e : Int) : Int × Int × Int := if e = 0 then ((tk (s.extract a.toNat s.size)).1, a + (tk (s.extract a.toNat s.size)).2.1, (tk (s.extract a.toNat s.size)).2.2) else (0, a, e)
/-- So many more numbers. -/
def lp (s : ByteArray) : Nat → List Int → Int → Int → List Int × Int × Int
  | 0, acc, a, e => (acc, a, e)
  | d + 1, acc, a, e => if e = 0 then lp s d (acc ++ [(nm s a e).1]) (nm s a e).2.1 (nm s a e).2.2 else (acc, a, e)
/-- The next list, of at most 16 numbers. -/
def ls (s : ByteArray) (a e : Int) : List Int × Int × Int := if (nm s a e).2.2 = 0 then (if (nm s a e).1 > 16 then ([], (nm s a e).2.1, 6) else lp s (nm s a e).1.toNat [] (nm s a e).2.1 0) else ([], (nm s a e).2.1, (nm s a e).2.2)
abbrev R8 := Int × Int × Int × List Int × List Int × List Int × Int × Int
def tfin (kind sig dst : Int) (tt args par : List Int) (a e : Int) : R8 := if e = 0 then (kind, sig, dst, tt, args, par, a, 0) else (0, 0, 0, [], [], [], 0, e)
/-- The terminator with which bytes begin. -/
def tkT (s : ByteArray) : R8 :=
  let t := nm s 0 0
  if t.1 = 1 then (let u := nm s t.2.1 t.2.2; tfin t.1 0 0 [u.1] [] [] u.2.1 u.2.2)
  else if t.1 = 2 then (let u := ls s t.2.1 t.2.2; let v := ls s u.2.1 (if u.2.2 = 0 then (if u.1.length = 0 then 3 else 0) else u.2.2); tfin t.1 0 0 u.1 v.1 [] v.2.1 v.2.2)
  else if t.1 = 3 then tfin t.1 0 0 [] [] [] t.2.1 t.2.2
  else if t.1 = 4 then (let u := nm s t.2.1 t.2.2; let v := nm s u.2.1 u.2.2; let x := nm s v.2.1 v.2.2; let y := ls s x.2.1 x.2.2; let z := ls s y.2.1 y.2.2; tfin t.1 u.1 v.1 [x.1] z.1 y.1 z.2.1 z.2.2)
  else tfin t.1 0 0 [] [] [] t.2.1 (if t.2.2 = 0 then 3 else t.2.2)
theorem nm_range (s : ByteArray) (a e : Int) (h0 : 0 ≤ a) (h1 : a ≤ s.size) : 0 ≤ (nm s a e).1 ∧ (nm s a e).1 ≤ 4294967295 ∧ 0 ≤ (nm s a e).2.1 ∧ (nm s a e).2.1 ≤ s.size := by
  have hr := tk_range (s.extract a.toNat s.size)
  have hz := ext_size s a h0 h1
  unfold nm
  split
  · simp only; omega
  · simp only; omega
theorem num_eq (s : ByteArray) (hs : s.size ≤ 1000000) (k : Nat) (hk : 12 ≤ k) (a e : Int) (h0 : 0 ≤ a) (h1 : a ≤ s.size) : term_reader_num.f k s a e = some ((nm s a e).1, s, (nm s a e).2.1, (nm s a e).2.2) := by
  have hr := tk_range (s.extract a.toNat s.size)
  have hz := ext_size s a h0 h1
  unfold term_reader_num.f nm
  by_cases c : e = 0
  · rw [if_pos c, if_pos c, if_pos h0, if_pos h1, take_eq _ k hk]
    simp only [Option.bind_some]
    rw [w64 _ (by omega) (by omega)]
  · rw [if_neg c, if_neg c]
theorem lp_err (s : ByteArray) (d : Nat) (acc : List Int) (a e : Int) (he : e ≠ 0) : lp s d acc a e = (acc, a, e) := by
  cases d with
  | zero => rfl
  | succ d => simp only [lp]; rw [if_neg he]
theorem lp_range (s : ByteArray) : ∀ (d : Nat) (acc : List Int) (a e : Int), 0 ≤ a → a ≤ s.size → 0 ≤ (lp s d acc a e).2.1 ∧ (lp s d acc a e).2.1 ≤ s.size ∧ (lp s d acc a e).1.length ≤ acc.length + d
  | 0, acc, a, e, h0, h1 => by simp only [lp]; omega
  | d + 1, acc, a, e, h0, h1 => by
    simp only [lp]
    split
    · have hr := nm_range s a e h0 h1
      have := lp_range s d (acc ++ [(nm s a e).1]) (nm s a e).2.1 (nm s a e).2.2 hr.2.2.1 hr.2.2.2
      rw [List.length_append] at this
      simp only [List.length_singleton] at this
      omega
    · simp only; omega
theorem ls_range (s : ByteArray) (a e : Int) (h0 : 0 ≤ a) (h1 : a ≤ s.size) : 0 ≤ (ls s a e).2.1 ∧ (ls s a e).2.1 ≤ s.size ∧ (ls s a e).1.length ≤ 16 := by
  have hr := nm_range s a e h0 h1
  unfold ls
  split
  · split
    · simp only [List.length_nil]; omega
    · have := lp_range s (nm s a e).1.toNat [] (nm s a e).2.1 0 hr.2.2.1 hr.2.2.2
      simp only [List.length_nil] at this
      omega
  · simp only [List.length_nil]; omega
theorem lp_loop (s : ByteArray) (hs : s.size ≤ 1000000) (n : Int) (hn : n ≤ 16) : ∀ (d : Nat) (i : Int) (k : Nat) (acc : List Int) (a e : Int), i + d = n → 0 ≤ i → d + 14 ≤ k → acc.length ≤ 16 - d → 0 ≤ a → a ≤ s.size →
    term_reader_list.l0 k n acc i s a e = some ((lp s d acc a e).1, s, (lp s d acc a e).2.1, (lp s d acc a e).2.2)
  | 0, i, k, acc, a, e, hd, hi, hk, ha, h0, h1 => by
    obtain ⟨k, rfl⟩ : ∃ m, k = m + 1 := ⟨k - 1, by omega⟩
    simp only [term_reader_list.l0, lp]
    rw [if_neg (by omega)]
  | d + 1, i, k, acc, a, e, hd, hi, hk, ha, h0, h1 => by
    obtain ⟨k, rfl⟩ : ∃ m, k = m + 1 := ⟨k - 1, by omega⟩
    have hr := nm_range s a e h0 h1
    simp only [term_reader_list.l0, lp]
    rw [if_pos (by omega)]
    by_cases c : e = 0
    · rw [if_pos c, if_pos c, num_eq s hs k (by omega) a e h0 h1]
      simp only [Option.bind_some]
      rw [if_pos (by omega), w64 _ (by omega) (by omega)]
      exact lp_loop s hs n hn d (i + 1) k _ _ _ (by omega) (by omega) (by omega) (by rw [List.length_append]; simp only [List.length_singleton]; omega) hr.2.2.1 hr.2.2.2
    · rw [if_neg c, if_neg c]
theorem list_eq (s : ByteArray) (hs : s.size ≤ 1000000) (k : Nat) (hk : 40 ≤ k) (a e : Int) (h0 : 0 ≤ a) (h1 : a ≤ s.size) : term_reader_list.f k s a e 16 = some ((ls s a e).1, s, (ls s a e).2.1, (ls s a e).2.2) := by
  have hr := nm_range s a e h0 h1
  obtain ⟨k, rfl⟩ : ∃ m, k = m + 3 := ⟨k - 3, by omega⟩
  unfold term_reader_list.f ls
  rw [num_eq s hs _ (by omega) a e h0 h1]
  simp only [Option.bind_some]
  have err : ∀ (n : Int) (a e : Int), e ≠ 0 → term_reader_list.l0 (k + 1) n [] 0 s a e = some ([], s, a, e) := by
    intro n a e he
    simp only [term_reader_list.l0]
    split <;> first | rfl | (rw [if_neg he])
  by_cases c : (nm s a e).2.2 = 0
  · rw [if_pos c, if_pos c]
    simp only [term_reader_list.j0, term_reader_list.j1]
    by_cases c2 : (nm s a e).1 > 16
    · rw [decide_eq_true c2, if_pos rfl, if_pos c2]
      exact err _ _ _ (by decide)
    · rw [decide_eq_false c2, if_neg (by simp), if_neg c2, c]
      exact lp_loop s hs (nm s a e).1 (by omega) (nm s a e).1.toNat 0 (k + 1) [] _ _ (by omega) (by omega) (by omega) (by first | (simp; done) | (simp; omega)) hr.2.2.1 hr.2.2.2
  · rw [if_neg c, if_neg c]
    simp only [term_reader_list.j0, term_reader_list.j1]
    rw [if_neg (by simp)]
    exact err _ _ _ c
theorem tfin_eq (kind sig dst : Int) (tt args par : List Int) (a e : Int) : term_Take.fin kind sig dst tt args par a e = some (tfin kind sig dst tt args par a e) := by
  unfold term_Take.fin tfin
  split <;> rfl
theorem ttake_eq (s : ByteArray) (hs : s.size ≤ 1000000) (k : Nat) (hk : 40 ≤ k) : term_Take.f k s = some (tkT s) := by
  unfold term_Take.f tkT
  have r1 := nm_range s 0 0 (by omega) (by omega)
  have N := fun a e => num_eq s hs k (by omega) a e
  have L := fun a e => list_eq s hs k (by omega) a e
  rw [N 0 0 (by omega) (by omega)]
  simp only [Option.bind_some, tfin_eq]
  generalize nm s 0 0 = t at r1 ⊢
  by_cases k1 : t.1 = 1
  · rw [if_pos k1, if_pos k1, N _ _ r1.2.2.1 r1.2.2.2]
    rfl
  rw [if_neg k1, if_neg k1]
  by_cases k2 : t.1 = 2
  · have r2 := ls_range s t.2.1 t.2.2 r1.2.2.1 r1.2.2.2
    rw [if_pos k2, if_pos k2, L _ _ r1.2.2.1 r1.2.2.2]
    simp only [Option.bind_some]
    rw [L _ _ r2.1 r2.2.1]
    rfl
  rw [if_neg k2, if_neg k2]
  by_cases k3 : t.1 = 3
  · rw [if_pos k3, if_pos k3]
  rw [if_neg k3, if_neg k3]
  by_cases k4 : t.1 = 4
  · have r2 := nm_range s t.2.1 t.2.2 r1.2.2.1 r1.2.2.2
    have r3 := nm_range s _ (nm s t.2.1 t.2.2).2.2 r2.2.2.1 r2.2.2.2
    have r4 := nm_range s _ (nm s (nm s t.2.1 t.2.2).2.1 (nm s t.2.1 t.2.2).2.2).2.2 r3.2.2.1 r3.2.2.2
    rw [if_pos k4, if_pos k4, N _ _ r1.2.2.1 r1.2.2.2]
    simp only [Option.bind_some]
    rw [N _ _ r2.2.2.1 r2.2.2.2]
    simp only [Option.bind_some]
    rw [N _ _ r3.2.2.1 r3.2.2.2]
    simp only [Option.bind_some]
    rw [L _ _ r4.2.2.1 r4.2.2.2]
    simp only [Option.bind_some]
    have r5 := ls_range s _ (nm s (nm s (nm s t.2.1 t.2.2).2.1 (nm s t.2.1 t.2.2).2.2).2.1 (nm s (nm s t.2.1 t.2.2).2.1 (nm s t.2.1 t.2.2).2.2).2.2).2.2 r4.2.2.1 r4.2.2.2
    rw [L _ _ r5.1 r5.2.1]
    rfl
  rw [if_neg k4, if_neg k4]
/-! terminators as bytes: put -/
def toN (kind n : Int) : Int := if kind = 1 ∨ kind = 4 then 1 else if kind = 2 then max 1 n else 0
/-- May a terminator be: 0, 3 or 6. -/
def fmT (kind sig dst : Int) (tt args par : List Int) : Int :=
  if kind < 1 ∨ kind > 4 then 3 else if (tt.length : Int) ≠ toN kind tt.length ∨ (kind ≠ 4 ∧ (sig ≠ 0 ∨ dst ≠ 0 ∨ par ≠ [])) ∨ (kind ≠ 4 ∧ kind ≠ 2 ∧ args ≠ []) then 3
  else if tt.length > 16 ∨ args.length > 16 ∨ par.length > 16 then 6 else 0
theorem len0 (l : List Int) : ((l.length : Int) > 0) ↔ l ≠ [] := by
  cases l <;> simp <;> omega
theorem mx_eq (n : Int) : mx 1 n = max 1 n := by
  unfold mx
  first | rfl | (split <;> omega) | omega
theorem tj2_eq (k : Nat) (b : Bool) (kind sig dst : Int) (tt args par : List Int) : term_form.j2 (k + 1) b kind sig dst tt args par = some (if b = true then 3 else if tt.length > 16 ∨ args.length > 16 ∨ par.length > 16 then 6 else 0) := by
  simp only [term_form.j2]
  cases b with
  | true => simp only [if_true]
  | false =>
    simp only [Bool.false_eq_true, if_false]
    by_cases c1 : tt.length > 16
    · rw [if_pos (by omega), if_pos (.inl c1)]
    rw [if_neg (by omega)]
    by_cases c2 : args.length > 16
    · rw [if_pos (by omega), if_pos (.inr (.inl c2))]
    rw [if_neg (by omega)]
    by_cases c3 : par.length > 16
    · rw [if_pos (by omega), if_pos (.inr (.inr c3))]
    rw [if_neg (by omega), if_neg (by omega)]
theorem tj1_eq (k : Nat) (b : Bool) (n kind sig dst : Int) (tt args par : List Int) : term_form.j1 (k + 2) b n kind sig dst tt args par = some (if (tt.length : Int) ≠ n ∨ (b = false ∧ (sig ≠ 0 ∨ dst ≠ 0 ∨ par ≠ [])) ∨ (b = false ∧ kind ≠ 2 ∧ args ≠ []) then 3 else if tt.length > 16 ∨ args.length > 16 ∨ par.length > 16 then 6 else 0) := by
  simp only [term_form.j1, tj2_eq, len0]
  by_cases c1 : (tt.length : Int) = n
  · rw [if_pos c1]
    cases b with
    | true => simp [c1]
    | false =>
      by_cases c2 : sig = 0 <;> by_cases c3 : dst = 0 <;> by_cases c4 : par = [] <;> by_cases c5 : kind = 2 <;> by_cases c6 : args = [] <;> simp [c1, c2, c3, c4, c5, c6]
  · rw [if_neg c1]
    simp [c1]
theorem tform_eq (k : Nat) (hk : 4 ≤ k) (kind sig dst : Int) (tt args par : List Int) : term_form.f k kind sig dst tt args par = some (fmT kind sig dst tt args par) := by
  obtain ⟨k, rfl⟩ : ∃ m, k = m + 3 := ⟨k - 3, by omega⟩
  unfold term_form.f fmT toN
  simp only [term_form.j0, tj1_eq, mx_eq]
  by_cases k1 : kind = 1
  · subst k1; simp
  by_cases k4 : kind = 4
  · subst k4; simp
  by_cases k2 : kind = 2
  · subst k2; simp
  by_cases k3 : kind = 3
  · subst k3; simp
  have hk : kind < 1 ∨ kind > 4 := by omega
  simp [k1, k2, k3, k4, hk]
/-- A list's bytes. -/
def lsL (l : List Int) : List Int := putL (l.length : Int) ++ allL l
/-- A terminator's bytes. -/
def putT (kind sig dst : Int) (tt args par : List Int) : List Int :=
  putL kind ++ (if kind = 1 then allL tt else if kind = 2 then lsL tt ++ lsL args else if kind = 4 then allL [sig, dst, rd tt 0] ++ lsL par ++ lsL args else [])
theorem allL_len : ∀ (l : List Int), (allL l).length ≤ 5 * l.length
  | [] => by simp [allL]
  | x :: l => by
    rw [allL_cons, List.length_append]
    have := putL_len x
    have := allL_len l
    simp only [List.length_cons]; omega
theorem lsL_len (l : List Int) : (lsL l).length ≤ 5 * l.length + 5 := by
  unfold lsL
  rw [List.length_append]
  have := putL_len (l.length : Int)
  have := allL_len l
  omega
theorem allf_eq (l : List Int) (hl : l.length ≤ 100) (k : Nat) (hk : 120 ≤ k) : leb_All.f k l = some (strOfNums (allL l)) := by
  unfold leb_All.f
  have ea := all_loop l hl l.length 0 k [] (by omega) (by omega) (by simp)
  simp only [List.nil_append, List.drop_zero] at ea
  exact ea
theorem listp_eq (l : List Int) (hl : l.length ≤ 100) (k : Nat) (hk : 120 ≤ k) : term_list.f k l = some (strOfNums (lsL l)) := by
  unfold term_list.f lsL
  have h1 := putL_len (l.length : Int)
  have h2 := allL_len l
  rw [put_eq _ k (by omega), allf_eq l hl k hk]
  simp only [Option.bind_some, strOf_size]
  rw [if_pos (by omega), strOf_append]
theorem tput_eq (kind sig dst : Int) (tt args par : List Int) (h1 : tt.length ≤ 100) (h2 : args.length ≤ 100) (h3 : par.length ≤ 100) (k : Nat) (hk : 120 ≤ k) :
    term_Put.f k kind sig dst tt args par = some (if fmT kind sig dst tt args par = 0 then (strOfNums (putT kind sig dst tt args par), 0) else (⟨#[]⟩, fmT kind sig dst tt args par)) := by
  unfold term_Put.f
  rw [tform_eq k (by omega)]
  simp only [Option.bind_some]
  by_cases c : fmT kind sig dst tt args par = 0
  · have b0 := putL_len kind
    have b1 := allL_len tt
    have b2 := lsL_len tt
    have b3 := lsL_len args
    have b4 := lsL_len par
    have b5 := allL_len [sig, dst, rd tt 0]
    simp only [List.length_cons, List.length_nil] at b5
    rw [if_pos c, if_pos c, put_eq _ k (by omega)]
    simp only [Option.bind_some]
    unfold putT
    by_cases k1 : kind = 1
    · rw [if_pos k1, if_pos k1, allf_eq tt h1 k hk]
      simp only [Option.bind_some, strOf_size]
      rw [if_pos (by omega), strOf_append]
    rw [if_neg k1, if_neg k1]
    by_cases k2 : kind = 2
    · rw [if_pos k2, if_pos k2, listp_eq tt h1 k hk, listp_eq args h2 k hk]
      simp only [Option.bind_some, strOf_size, strOf_append, List.length_append]
      rw [if_pos (by omega), if_pos (by omega)]
    rw [if_neg k2, if_neg k2]
    by_cases k4 : kind = 4
    · have ht : 0 < (tt.length : Int) := by
        unfold fmT toN at c
        subst k4
        simp at c
        split at c <;> first | omega | (simp at c)
      rw [if_pos k4, if_pos k4, if_pos ht, allf_eq _ (by simp) k hk, listp_eq par h3 k hk]
      simp only [Option.bind_some]
      rw [listp_eq args h2 k hk]
      simp only [Option.bind_some, strOf_size, strOf_append, List.length_append]
      rw [if_pos (by omega), if_pos (by omega), if_pos (by omega)]
    rw [if_neg k4, if_neg k4]
    simp
  · rw [if_neg c, if_neg c]
theorem tawake_eq (k : Nat) (hk : 120 ≤ k) : easementlaw19_awake.f k = some true := by
  unfold easementlaw19_awake.f
  rw [tput_eq _ _ _ _ _ _ (by simp) (by simp) (by simp) k hk, tput_eq _ _ _ _ _ _ (by simp) (by simp) (by simp) k hk]
  have e1 : fmT 2 0 0 [1, 2] [3] [] = 0 := by decide +kernel
  have e2 : fmT 1 0 0 [] [] [] = 3 := by decide +kernel
  rw [e1, e2]
  simp only [Option.bind_some, if_true, strOf_toList]
  decide +kernel
/-! what was put is taken; what was taken is put -/
theorem nm_err (s : ByteArray) (a e : Int) (h : (nm s a e).2.2 = 0) : e = 0 := by
  unfold nm at h
  by_cases c : e = 0
  · exact c
  · rw [if_neg c] at h; exact absurd h c
theorem nm_put (S : ByteArray) (P Q : List Int) (x : Int) (s : ByteArray) (h0 : 0 ≤ x) (h1 : x ≤ 4294967295) (hS : S = strOfNums (P ++ (putL x ++ Q)) ++ s) :
    nm S (P.length : Int) 0 = (x, ((P ++ putL x).length : Int), 0) := by
  unfold nm
  rw [if_pos rfl]
  have e : S.extract (P.length : Int).toNat S.size = strOfNums (putL x) ++ (strOfNums Q ++ s) := by
    rw [hS, Int.toNat_natCast, cut_off, ← strOf_append, ByteArray.append_assoc]
  rw [e, tk_put h0 h1]
  simp only [List.length_append, Int.natCast_add]
theorem lp_put (S : ByteArray) (s : ByteArray) : ∀ (m acc P Q : List Int), (∀ x ∈ m, 0 ≤ x ∧ x ≤ 4294967295) → S = strOfNums (P ++ (allL m ++ Q)) ++ s →
    lp S m.length acc (P.length : Int) 0 = (acc ++ m, ((P ++ allL m).length : Int), 0)
  | [], acc, P, Q, _, _ => by simp [lp, allL]
  | x :: m, acc, P, Q, hm, hS => by
    have hx := hm x (by simp)
    simp only [List.length_cons, lp]
    rw [if_pos trivial, nm_put S P (allL m ++ Q) x s hx.1 hx.2 (by rw [hS, allL_cons]; simp [List.append_assoc])]
    simp only
    rw [lp_put S s m (acc ++ [x]) (P ++ putL x) Q (fun y hy => hm y (by simp [hy])) (by rw [hS, allL_cons]; simp [List.append_assoc]), allL_cons]
    simp [List.append_assoc]
theorem ls_put (S : ByteArray) (s : ByteArray) (l P Q : List Int) (hl : l.length ≤ 16) (hm : ∀ x ∈ l, 0 ≤ x ∧ x ≤ 4294967295) (hS : S = strOfNums (P ++ (lsL l ++ Q)) ++ s) :
    ls S (P.length : Int) 0 = (l, ((P ++ lsL l).length : Int), 0) := by
  unfold ls
  have e := nm_put S P (allL l ++ Q) (l.length : Int) s (by omega) (by omega) (by rw [hS]; unfold lsL; simp [List.append_assoc])
  rw [e]
  simp only
  rw [if_pos trivial, if_neg (by omega), Int.toNat_natCast, lp_put S s l [] (P ++ putL (l.length : Int)) Q hm (by rw [hS]; unfold lsL; simp [List.append_assoc])]
  unfold lsL
  simp [List.append_assoc]
theorem fm0 {kind sig dst : Int} {tt args par : List Int} (h : fmT kind sig dst tt args par = 0) : (kind = 1 ∨ kind = 2 ∨ kind = 3 ∨ kind = 4) ∧ (tt.length : Int) = toN kind tt.length ∧ (kind ≠ 4 → sig = 0 ∧ dst = 0 ∧ par = []) ∧ (kind ≠ 4 → kind ≠ 2 → args = []) ∧ tt.length ≤ 16 ∧ args.length ≤ 16 ∧ par.length ≤ 16 := by
  unfold fmT at h
  split at h
  · simp at h
  rename_i c1
  split at h
  · simp at h
  rename_i c2
  split at h
  · simp at h
  rename_i c3
  simp only [not_or, not_and, Classical.not_not] at c2
  obtain ⟨c4, c5, c6⟩ := c2
  refine ⟨by omega, c4, fun hk => ?_, fun hk hk2 => c6 hk hk2, by omega, by omega, by omega⟩
  exact c5 hk
theorem tkT_1 {S : ByteArray} {b e x b2 e2 : Int} (h : nm S 0 0 = (1, b, e)) (h2 : nm S b e = (x, b2, e2)) : tkT S = tfin 1 0 0 [x] [] [] b2 e2 := by
  unfold tkT
  rw [h]
  dsimp only
  rw [if_pos rfl, h2]
theorem tkT_2 {S : ByteArray} {b e b2 e2 b3 e3 : Int} {l m : List Int} (h : nm S 0 0 = (2, b, e)) (h2 : ls S b e = (l, b2, e2)) (h3 : ls S b2 (if e2 = 0 then (if l.length = 0 then 3 else 0) else e2) = (m, b3, e3)) : tkT S = tfin 2 0 0 l m [] b3 e3 := by
  unfold tkT
  rw [h]
  dsimp only
  rw [if_neg (by decide), if_pos rfl, h2]
  dsimp only
  rw [h3]
theorem tkT_3 {S : ByteArray} {b e : Int} (h : nm S 0 0 = (3, b, e)) : tkT S = tfin 3 0 0 [] [] [] b e := by
  unfold tkT
  rw [h]
  dsimp only
  rw [if_neg (by decide), if_neg (by decide), if_pos rfl]
theorem tkT_4 {S : ByteArray} {b e x2 b2 e2 x3 b3 e3 x4 b4 e4 b5 e5 b6 e6 : Int} {l5 l6 : List Int} (h : nm S 0 0 = (4, b, e)) (h2 : nm S b e = (x2, b2, e2)) (h3 : nm S b2 e2 = (x3, b3, e3)) (h4 : nm S b3 e3 = (x4, b4, e4)) (h5 : ls S b4 e4 = (l5, b5, e5)) (h6 : ls S b5 e5 = (l6, b6, e6)) : tkT S = tfin 4 x2 x3 [x4] l6 l5 b6 e6 := by
  unfold tkT
  rw [h]
  dsimp only
  rw [if_neg (by decide), if_neg (by decide), if_neg (by decide), if_pos rfl, h2]
  dsimp only
  rw [h3]
  dsimp only
  rw [h4]
  dsimp only
  rw [h5]
  dsimp only
  rw [h6]
theorem tkT_o {S : ByteArray} {n b e : Int} (h : nm S 0 0 = (n, b, e)) (k1 : ¬ n = 1) (k2 : ¬ n = 2) (k3 : ¬ n = 3) (k4 : ¬ n = 4) : tkT S = tfin n 0 0 [] [] [] b (if e = 0 then 3 else e) := by
  unfold tkT
  rw [h]
  dsimp only
  rw [if_neg k1, if_neg k2, if_neg k3, if_neg k4]
theorem put1 (x : Int) : putT 1 0 0 [x] [] [] = putL 1 ++ putL x := by
  unfold putT
  rw [if_pos rfl, allL_cons]
  simp [allL]
theorem put2 (tt args : List Int) : putT 2 0 0 tt args [] = putL 2 ++ (lsL tt ++ lsL args) := by
  unfold putT
  rw [if_neg (by decide), if_pos rfl]
theorem put3 : putT 3 0 0 [] [] [] = putL 3 := by
  unfold putT
  rw [if_neg (by decide), if_neg (by decide), if_neg (by decide), List.append_nil]
theorem put4 (sig dst x : Int) (args par : List Int) : putT 4 sig dst [x] args par = putL 4 ++ (putL sig ++ (putL dst ++ (putL x ++ (lsL par ++ lsL args)))) := by
  unfold putT
  rw [if_neg (by decide), if_neg (by decide), if_pos rfl, allL_cons, allL_cons, allL_cons]
  have hr : rd [x] 0 = x := rfl
  rw [hr]
  simp [allL, List.append_assoc]
theorem one_of {tt : List Int} (h : (tt.length : Int) = 1) : ∃ x, tt = [x] := by
  match tt, h with
  | [x], _ => exact ⟨x, rfl⟩
  | [], h => simp at h
  | _ :: _ :: _, h => simp only [List.length_cons] at h; omega
/-- What was put is taken as it was. -/
theorem tback {kind sig dst : Int} {tt args par : List Int} (h : fmT kind sig dst tt args par = 0) (hs : 0 ≤ sig ∧ sig ≤ 4294967295) (hd : 0 ≤ dst ∧ dst ≤ 4294967295)
    (h1 : ∀ x ∈ tt, 0 ≤ x ∧ x ≤ 4294967295) (h2 : ∀ x ∈ args, 0 ≤ x ∧ x ≤ 4294967295) (h3 : ∀ x ∈ par, 0 ≤ x ∧ x ≤ 4294967295) (s : ByteArray) :
    tkT (strOfNums (putT kind sig dst tt args par) ++ s) = (kind, sig, dst, tt, args, par, ((putT kind sig dst tt args par).length : Int), 0) := by
  obtain ⟨hk, hn, hz, hy, l1, l2, l3⟩ := fm0 h
  clear h
  generalize hS : strOfNums (putT kind sig dst tt args par) ++ s = S
  have ap : ∀ a b c : List Int, a ++ b ++ c = a ++ (b ++ c) := List.append_assoc
  rcases hk with rfl | rfl | rfl | rfl
  · obtain ⟨rfl, rfl, rfl⟩ := hz (by decide)
    obtain rfl := hy (by decide) (by decide)
    obtain ⟨x, rfl⟩ := one_of hn
    have hx := h1 x (List.mem_singleton.2 rfl)
    rw [put1] at hS ⊢
    have e0 : nm S 0 0 = (1, ((putL 1).length : Int), 0) := nm_put S [] (putL x) 1 s (by decide) (by decide) hS.symm
    have e1 := nm_put S (putL 1) [] x s hx.1 hx.2 (by rw [← hS, List.append_nil])
    rw [tkT_1 e0 e1, tfin, if_pos rfl]
  · obtain ⟨rfl, rfl, rfl⟩ := hz (by decide)
    have ht : ¬ tt.length = 0 := by
      have e : toN 2 (tt.length : Int) = max 1 (tt.length : Int) := rfl
      rw [e] at hn; omega
    rw [put2] at hS ⊢
    have e0 : nm S 0 0 = (2, ((putL 2).length : Int), 0) := nm_put S [] (lsL tt ++ lsL args) 2 s (by decide) (by decide) hS.symm
    have e1 := ls_put S s tt (putL 2) (lsL args) l1 h1 hS.symm
    have e2 := ls_put S s args (putL 2 ++ lsL tt) [] l2 h2 (by rw [← hS, List.append_nil, ap])
    have e3 : ls S ((putL 2 ++ lsL tt).length : Int) (if (0 : Int) = 0 then (if tt.length = 0 then 3 else 0) else 0) = (args, ((putL 2 ++ lsL tt ++ lsL args).length : Int), 0) := by
      rw [if_pos rfl, if_neg ht]
      exact e2
    rw [tkT_2 e0 e1 e3, tfin, if_pos rfl, ap]
  · obtain ⟨rfl, rfl, rfl⟩ := hz (by decide)
    obtain rfl := hy (by decide) (by decide)
    obtain rfl : tt = [] := by
      have e : toN 3 (tt.length : Int) = 0 := rfl
      rw [e] at hn
      exact List.eq_nil_of_length_eq_zero (by omega)
    rw [put3] at hS ⊢
    have e0 : nm S 0 0 = (3, ((putL 3).length : Int), 0) := nm_put S [] [] 3 s (by decide) (by decide) (by rw [← hS, List.append_nil]; rfl)
    rw [tkT_3 e0, tfin, if_pos rfl]
  · obtain ⟨x, rfl⟩ := one_of hn
    have hx := h1 x (List.mem_singleton.2 rfl)
    rw [put4] at hS ⊢
    have e0 : nm S 0 0 = (4, ((putL 4).length : Int), 0) := nm_put S [] _ 4 s (by decide) (by decide) hS.symm
    have e1 := nm_put S (putL 4) (putL dst ++ (putL x ++ (lsL par ++ lsL args))) sig s hs.1 hs.2 hS.symm
    have e2 := nm_put S (putL 4 ++ putL sig) (putL x ++ (lsL par ++ lsL args)) dst s hd.1 hd.2 (by rw [← hS, ap])
    have e3 := nm_put S (putL 4 ++ putL sig ++ putL dst) (lsL par ++ lsL args) x s hx.1 hx.2 (by rw [← hS, ap, ap])
    have e4 := ls_put S s par (putL 4 ++ putL sig ++ putL dst ++ putL x) (lsL args) l3 h3 (by rw [← hS, ap, ap, ap])
    have e5 := ls_put S s args (putL 4 ++ putL sig ++ putL dst ++ putL x ++ lsL par) [] l2 h2 (by rw [← hS, List.append_nil, ap, ap, ap, ap])
    rw [tkT_4 e0 e1 e2 e3 e4 e5, tfin, if_pos rfl, ap, ap, ap, ap]
/-- A number that was taken, put again, is the bytes. -/
theorem nm_back (s : ByteArray) (a : Nat) (ha : a ≤ s.size) {e n b : Int} (h : nm s (a : Int) e = (n, b, 0)) : e = 0 ∧ 0 ≤ n ∧ n ≤ 4294967295 ∧ ∃ b' : Nat, b = b' ∧ a ≤ b' ∧ b' ≤ s.size ∧ head s b' = head s a ++ putL n := by
  have he : e = 0 := nm_err s a e (by rw [h])
  subst he
  have hr := tk_range (s.extract a s.size)
  unfold nm at h
  rw [if_pos rfl, Int.toNat_natCast] at h
  simp only [Prod.mk.injEq] at h
  obtain ⟨h1, h2, h3⟩ := h
  obtain ⟨x, j, ej⟩ : ∃ x j, tk (s.extract a s.size) = (x, j, 0) := ⟨_, _, by rw [← h3]⟩
  obtain ⟨g1, g2, g3⟩ := tk_ok ej
  rw [ej] at h1 h2 hr
  simp only at h1 h2 hr
  have hz : (s.extract a s.size).size = s.size - a := by rw [ByteArray.size_extract]; omega
  subst h1
  refine ⟨rfl, hr.1, hr.2.1, a + j.toNat, by omega, by omega, by omega, ?_⟩
  rw [head_add s a j.toNat (by omega), ← g3]
theorem lp_back (s : ByteArray) : ∀ (d : Nat) (acc : List Int) (a : Nat) (e : Int) (l : List Int) (b : Int), a ≤ s.size → lp s d acc (a : Int) e = (l, b, 0) → e = 0 ∧ ∃ (m : List Int) (b' : Nat), l = acc ++ m ∧ m.length = d ∧ b = b' ∧ a ≤ b' ∧ b' ≤ s.size ∧ head s b' = head s a ++ allL m ∧ ∀ x ∈ m, 0 ≤ x ∧ x ≤ 4294967295
  | 0, acc, a, e, l, b, ha, h => by
    simp only [lp, Prod.mk.injEq] at h
    obtain ⟨rfl, rfl, rfl⟩ := h
    exact ⟨rfl, [], a, by simp, rfl, rfl, Nat.le_refl _, ha, by simp [allL], by simp⟩
  | d + 1, acc, a, e, l, b, ha, h => by
    simp only [lp] at h
    by_cases c : e = 0
    · rw [if_pos c] at h
      subst c
      obtain ⟨n, b1, e1, hn⟩ : ∃ n b1 e1, nm s (a : Int) 0 = (n, b1, e1) := ⟨_, _, _, rfl⟩
      rw [hn] at h
      simp only at h
      have hr := nm_range s a 0 (by omega) (by omega)
      rw [hn] at hr
      simp only at hr
      obtain ⟨b2, rfl⟩ : ∃ b2 : Nat, b1 = b2 := ⟨b1.toNat, by omega⟩
      obtain ⟨rfl, m, b', rfl, hm, rfl, hb1, hb2, hh, hx⟩ := lp_back s d (acc ++ [n]) b2 e1 l b (by omega) h
      obtain ⟨_, g1, g2, b3, g3, g4, g5, g6⟩ := nm_back s a ha hn
      obtain rfl : b2 = b3 := by omega
      refine ⟨rfl, n :: m, b', by simp, by simp [hm], rfl, by omega, hb2, ?_, ?_⟩
      · rw [hh, g6, allL_cons, List.append_assoc]
      · intro x hx'
        rcases List.mem_cons.1 hx' with rfl | hx'
        · exact ⟨g1, g2⟩
        · exact hx x hx'
    · rw [if_neg c] at h
      simp only [Prod.mk.injEq] at h
      exact absurd h.2.2 c
theorem ls_back (s : ByteArray) (a : Nat) (ha : a ≤ s.size) {e b : Int} {l : List Int} (h : ls s (a : Int) e = (l, b, 0)) : e = 0 ∧ l.length ≤ 16 ∧ ∃ b' : Nat, b = b' ∧ a ≤ b' ∧ b' ≤ s.size ∧ head s b' = head s a ++ lsL l ∧ ∀ x ∈ l, 0 ≤ x ∧ x ≤ 4294967295 := by
  unfold ls at h
  by_cases c : (nm s (a : Int) e).2.2 = 0
  · rw [if_pos c] at h
    obtain ⟨n, b1, hn⟩ : ∃ n b1, nm s (a : Int) e = (n, b1, 0) := ⟨_, _, by rw [← c]⟩
    obtain ⟨he, g1, g2, b2, g3, g4, g5, g6⟩ := nm_back s a ha hn
    rw [hn] at h
    dsimp only at h
    rw [g3] at h
    by_cases c2 : n > 16
    · rw [if_pos c2] at h
      simp only [Prod.mk.injEq] at h
      exact absurd h.2.2 (by decide)
    · rw [if_neg c2] at h
      obtain ⟨_, m, b', q1, hm, q2, hb1, hb2, hh, hx⟩ := lp_back s _ [] b2 0 l b g5 h
      rw [List.nil_append] at q1
      subst q1
      refine ⟨he, by omega, b', q2, by omega, hb2, ?_, hx⟩
      rw [hh, g6]
      unfold lsL
      rw [show (l.length : Int) = n by omega, List.append_assoc]
  · rw [if_neg c] at h
    simp only [Prod.mk.injEq] at h
    exact absurd h.2.2 c
theorem tfin0 {kind sig dst : Int} {tt args par : List Int} {a e : Int} {K Sg D A : Int} {T G P : List Int} (h : tfin kind sig dst tt args par a e = (K, Sg, D, T, G, P, A, 0)) : e = 0 ∧ kind = K ∧ sig = Sg ∧ dst = D ∧ tt = T ∧ args = G ∧ par = P ∧ a = A := by
  unfold tfin at h
  by_cases c : e = 0
  · rw [if_pos c] at h
    simp only [Prod.mk.injEq] at h
    obtain ⟨h1, h2, h3, h4, h5, h6, h7, _⟩ := h
    exact ⟨c, h1, h2, h3, h4, h5, h6, h7⟩
  · rw [if_neg c] at h
    simp only [Prod.mk.injEq] at h
    exact absurd h.2.2.2.2.2.2.2 c
theorem fm_1 (x : Int) : fmT 1 0 0 [x] [] [] = 0 := by
  unfold fmT
  rw [if_neg (by decide), if_neg (by simp [toN]), if_neg (by simp)]
theorem fm_2 {l m : List Int} (h0 : ¬ l.length = 0) (h1 : l.length ≤ 16) (h2 : m.length ≤ 16) : fmT 2 0 0 l m [] = 0 := by
  unfold fmT
  have e : toN 2 (l.length : Int) = max 1 (l.length : Int) := rfl
  rw [if_neg (by decide), if_neg (by rw [e]; simp; omega), if_neg (by simp; omega)]
theorem fm_3 : fmT 3 0 0 [] [] [] = 0 := by decide +kernel
theorem fm_4 (sig dst x : Int) {l m : List Int} (h1 : l.length ≤ 16) (h2 : m.length ≤ 16) : fmT 4 sig dst [x] l m = 0 := by
  unfold fmT
  rw [if_neg (by decide), if_neg (by simp [toN]), if_neg (by simp; omega)]
/-- What is taken is, put, the bytes that were taken. -/
theorem tfore (s : ByteArray) {kind sig dst a : Int} {tt args par : List Int} (h : tkT s = (kind, sig, dst, tt, args, par, a, 0)) :
    fmT kind sig dst tt args par = 0 ∧ 0 ≤ a ∧ a ≤ s.size ∧ putT kind sig dst tt args par = head s a.toNat ∧ (tt.length ≤ 16 ∧ args.length ≤ 16 ∧ par.length ≤ 16) := by
  obtain ⟨n, b1, e1, hn⟩ : ∃ n b1 e1, nm s 0 0 = (n, b1, e1) := ⟨_, _, _, rfl⟩
  have hr := nm_range s 0 0 (by omega) (by omega)
  rw [hn] at hr
  dsimp only at hr
  have key : e1 = 0 → 0 ≤ n ∧ n ≤ 4294967295 ∧ ∃ b' : Nat, b1 = b' ∧ b' ≤ s.size ∧ head s b' = putL n := by
    intro he
    subst he
    obtain ⟨_, g1, g2, b2, g3, g4, g5, g6⟩ := nm_back s 0 (by omega) hn
    exact ⟨g1, g2, b2, g3, g5, by rw [g6]; simp [head]⟩
  have nat : ∀ b : Int, 0 ≤ b → ∃ b' : Nat, b = b' := fun b hb => ⟨b.toNat, by omega⟩
  have ap : ∀ a b c : List Int, a ++ b ++ c = a ++ (b ++ c) := List.append_assoc
  by_cases k1 : n = 1
  · obtain ⟨x, b2, e2, h2⟩ : ∃ x b2 e2, nm s b1 e1 = (x, b2, e2) := ⟨_, _, _, rfl⟩
    subst k1
    rw [tkT_1 hn h2] at h
    obtain ⟨he, z1, z2, z3, z4, z5, z6, z7⟩ := tfin0 h
    subst z1 z2 z3 z4 z5 z6 z7 he
    have he1 := nm_err s b1 e1 (by rw [h2])
    obtain ⟨g1, g2, b3, g3, g4, g5⟩ := key he1
    subst g3
    obtain ⟨_, q1, q2, b4, q3, q4, q5, q6⟩ := nm_back s b3 g4 h2
    subst q3
    refine ⟨fm_1 x, by omega, by omega, ?_, by simp, by simp, by simp⟩
    rw [Int.toNat_natCast, q6, g5, put1]
  by_cases k2 : n = 2
  · obtain ⟨l, b2, e2, h2⟩ : ∃ l b2 e2, ls s b1 e1 = (l, b2, e2) := ⟨_, _, _, rfl⟩
    obtain ⟨m, b3, e3, h3⟩ : ∃ m b3 e3, ls s b2 (if e2 = 0 then (if l.length = 0 then 3 else 0) else e2) = (m, b3, e3) := ⟨_, _, _, rfl⟩
    subst k2
    rw [tkT_2 hn h2 h3] at h
    obtain ⟨he, z1, z2, z3, z4, z5, z6, z7⟩ := tfin0 h
    subst z1 z2 z3 z4 z5 z6 z7 he
    have r2 := ls_range s b1 e1 hr.2.2.1 hr.2.2.2
    rw [h2] at r2
    dsimp only at r2
    obtain ⟨b2', rfl⟩ := nat b2 r2.1
    obtain ⟨he, w1, b4, w2, w3, w4, w5, _⟩ := ls_back s b2' (by omega) h3
    have he2 : e2 = 0 ∧ ¬ l.length = 0 := by
      by_cases c : e2 = 0
      · rw [if_pos c] at he
        refine ⟨c, fun hl => ?_⟩
        rw [if_pos hl] at he
        exact absurd he (by decide)
      · rw [if_neg c] at he
        exact absurd he c
    obtain ⟨he2, hl⟩ := he2
    subst he2
    obtain ⟨b1', rfl⟩ := nat b1 hr.2.2.1
    obtain ⟨he1, v1, b5, v2, v3, v4, v5, _⟩ := ls_back s b1' (by omega) h2
    obtain rfl : b2' = b5 := by omega
    obtain ⟨g1, g2, b6, g3, g4, g5⟩ := key he1
    obtain rfl : b1' = b6 := by omega
    subst w2
    refine ⟨fm_2 hl v1 w1, by omega, by omega, ?_, v1, w1, by simp⟩
    rw [Int.toNat_natCast, w5, v5, g5, put2, ap]
  by_cases k3 : n = 3
  · subst k3
    rw [tkT_3 hn] at h
    obtain ⟨he, z1, z2, z3, z4, z5, z6, z7⟩ := tfin0 h
    subst z1 z2 z3 z4 z5 z6 z7 he
    obtain ⟨g1, g2, b3, g3, g4, g5⟩ := key rfl
    subst g3
    refine ⟨fm_3, by omega, by omega, ?_, by simp, by simp, by simp⟩
    rw [Int.toNat_natCast, g5, put3]
  by_cases k4 : n = 4
  · obtain ⟨x2, b2, e2, h2⟩ : ∃ x b e, nm s b1 e1 = (x, b, e) := ⟨_, _, _, rfl⟩
    obtain ⟨x3, b3, e3, h3⟩ : ∃ x b e, nm s b2 e2 = (x, b, e) := ⟨_, _, _, rfl⟩
    obtain ⟨x4, b4, e4, h4⟩ : ∃ x b e, nm s b3 e3 = (x, b, e) := ⟨_, _, _, rfl⟩
    obtain ⟨l5, b5, e5, h5⟩ : ∃ x b e, ls s b4 e4 = (x, b, e) := ⟨_, _, _, rfl⟩
    obtain ⟨l6, b6, e6, h6⟩ : ∃ x b e, ls s b5 e5 = (x, b, e) := ⟨_, _, _, rfl⟩
    subst k4
    rw [tkT_4 hn h2 h3 h4 h5 h6] at h
    obtain ⟨he, z1, z2, z3, z4, z5, z6, z7⟩ := tfin0 h
    subst z1 z2 z3 z4 z5 z6 z7 he
    have r2 := nm_range s b1 e1 hr.2.2.1 hr.2.2.2
    rw [h2] at r2
    dsimp only at r2
    have r3 := nm_range s b2 e2 r2.2.2.1 r2.2.2.2
    rw [h3] at r3
    dsimp only at r3
    have r4 := nm_range s b3 e3 r3.2.2.1 r3.2.2.2
    rw [h4] at r4
    dsimp only at r4
    have r5 := ls_range s b4 e4 r4.2.2.1 r4.2.2.2
    rw [h5] at r5
    dsimp only at r5
    obtain ⟨b1, rfl⟩ := nat b1 hr.2.2.1
    obtain ⟨b2, rfl⟩ := nat b2 r2.2.2.1
    obtain ⟨b3, rfl⟩ := nat b3 r3.2.2.1
    obtain ⟨b4, rfl⟩ := nat b4 r4.2.2.1
    obtain ⟨b5, rfl⟩ := nat b5 r5.1
    obtain ⟨f5, y1, c6, y2, y3, y4, y5, _⟩ := ls_back s b5 (by omega) h6
    subst f5 y2
    obtain ⟨f4, z1, c5, z2, z3, z4, z5, _⟩ := ls_back s b4 (by omega) h5
    obtain rfl : b5 = c5 := by omega
    subst f4
    obtain ⟨f3, u1, u2, c4, u3, u4, u5, u6⟩ := nm_back s b3 (by omega) h4
    obtain rfl : b4 = c4 := by omega
    subst f3
    obtain ⟨f2, v1, v2, c3, v3, v4, v5, v6⟩ := nm_back s b2 (by omega) h3
    obtain rfl : b3 = c3 := by omega
    subst f2
    obtain ⟨f1, w1, w2, c2, w3, w4, w5, w6⟩ := nm_back s b1 (by omega) h2
    obtain rfl : b2 = c2 := by omega
    obtain ⟨g1, g2, c1, g3, g4, g5⟩ := key f1
    obtain rfl : b1 = c1 := by omega
    refine ⟨fm_4 _ _ _ y1 z1, by omega, by omega, ?_, by simp, y1, z1⟩
    rw [Int.toNat_natCast, y5, z5, u6, v6, w6, g5, put4, ap, ap, ap, ap]
  rw [tkT_o hn k1 k2 k3 k4] at h
  obtain ⟨he, _⟩ := tfin0 h
  by_cases c : e1 = 0
  · rw [if_pos c] at he; exact absurd he (by decide)
  · rw [if_neg c] at he; exact absurd he c
/-! the law -/
theorem within_loop (l : List Int) (n : Int) (hl : l.length ≤ 1000) : ∀ (d i k : Nat), i + d = l.length → d + 1 ≤ k → easementref19_within.l0 k l n (i : Int) = some (decide (∀ x ∈ l.drop i, 0 ≤ x ∧ x < n))
  | 0, i, k, hd, hk => by
    obtain ⟨k, rfl⟩ : ∃ m, k = m + 1 := ⟨k - 1, by omega⟩
    simp only [easementref19_within.l0]
    rw [if_neg (by omega), List.drop_eq_nil_of_le (by omega)]
    simp
  | d + 1, i, k, hd, hk => by
    obtain ⟨k, rfl⟩ : ∃ m, k = m + 1 := ⟨k - 1, by omega⟩
    simp only [easementref19_within.l0]
    have hi : i < l.length := by omega
    have e1 : (i : Int) + 1 = ((i + 1 : Nat) : Int) := by omega
    rw [if_pos (by omega), if_pos (by omega), rd_eq hi, List.drop_eq_getElem_cons hi, w64 _ (by omega) (by omega), e1, within_loop l n hl d (i + 1) k (by omega) (by omega)]
    by_cases c1 : l[i] < 0
    · rw [if_pos c1, decide_eq_false]
      intro h
      have := h l[i] (List.mem_cons_self ..)
      omega
    rw [if_neg c1]
    by_cases c2 : l[i] ≥ n
    · rw [if_pos c2, decide_eq_false]
      intro h
      have := h l[i] (List.mem_cons_self ..)
      omega
    rw [if_neg c2]
    congr 1
    apply decide_eq_decide.2
    constructor
    · intro h x hx
      rcases List.mem_cons.1 hx with rfl | hx
      · omega
      · exact h x hx
    · exact fun h x hx => h x (List.mem_cons_of_mem _ hx)
theorem within_eq (l : List Int) (n : Int) (hl : l.length ≤ 1000) (k : Nat) (hk : l.length + 1 ≤ k) : easementref19_within.f k l n = some (decide (∀ x ∈ l, 0 ≤ x ∧ x < n)) := by
  unfold easementref19_within.f
  exact within_loop l n hl l.length 0 k (by omega) (by omega)
def plT (sig dst : Int) (tt args par : List Int) : Bool := decide (tt.length ≤ 20 ∧ args.length ≤ 20 ∧ par.length ≤ 20 ∧ (∀ x ∈ tt, 0 ≤ x ∧ x < 2147483648) ∧ (∀ x ∈ args, 0 ≤ x ∧ x < 2147483648) ∧ (∀ x ∈ par, 0 ≤ x ∧ x < 2147483648) ∧ (0 ≤ sig ∧ sig < 2147483648) ∧ 0 ≤ dst ∧ dst < 2147483648)
theorem plain_eq (kind sig dst : Int) (tt args par : List Int) (k : Nat) (hk : 30 ≤ k) : easementref19_Plain.f k kind sig dst tt args par = some (plT sig dst tt args par) := by
  unfold easementref19_Plain.f plT
  by_cases c1 : tt.length ≤ 20
  · by_cases c2 : args.length ≤ 20
    · by_cases c3 : par.length ≤ 20
      · rw [if_pos (by omega), if_pos (by omega), if_pos (by omega), within_eq tt _ (by omega) k (by omega), within_eq args _ (by omega) k (by omega), within_eq par _ (by omega) k (by omega), within_eq [sig, dst] _ (by simp) k (by simp; omega)]
        simp only [Option.bind_some, decide_eq_true_eq]
        by_cases d1 : ∀ x ∈ tt, 0 ≤ x ∧ x < 2147483648
        · rw [if_pos d1]
          by_cases d2 : ∀ x ∈ args, 0 ≤ x ∧ x < 2147483648
          · rw [if_pos d2]
            by_cases d3 : ∀ x ∈ par, 0 ≤ x ∧ x < 2147483648
            · rw [if_pos d3]
              congr 1
              apply decide_eq_decide.2
              constructor
              · intro h
                exact ⟨c1, c2, c3, d1, d2, d3, h sig (by simp), (h dst (by simp)).1, (h dst (by simp)).2⟩
              · rintro ⟨_, _, _, _, _, _, h1, h2⟩ x hx
                simp only [List.mem_cons, List.not_mem_nil, or_false] at hx
                rcases hx with rfl | rfl
                · exact h1
                · exact h2
            · rw [if_neg d3, decide_eq_false (fun h => d3 h.2.2.2.2.2.1)]
          · rw [if_neg d2, decide_eq_false (fun h => d2 h.2.2.2.2.1)]
        · rw [if_neg d1, decide_eq_false (fun h => d1 h.2.2.2.1)]
      · rw [if_pos (by omega), if_pos (by omega), if_neg (by omega), decide_eq_false (fun h => c3 h.2.2.1)]
    · rw [if_pos (by omega), if_neg (by omega), decide_eq_false (fun h => c2 h.2.1)]
  · rw [if_neg (by omega), decide_eq_false (fun h => c1 h.1)]
theorem same_loop (l m : List Int) (hl : l.length ≤ 1000) (hm : l.length = m.length) : ∀ (d i k : Nat), i + d = l.length → d + 1 ≤ k → easementref01_Same.l0 k l m (i : Int) = some (decide (l.drop i = m.drop i))
  | 0, i, k, hd, hk => by
    obtain ⟨k, rfl⟩ : ∃ m, k = m + 1 := ⟨k - 1, by omega⟩
    simp only [easementref01_Same.l0]
    rw [if_neg (by omega), List.drop_eq_nil_of_le (by omega), List.drop_eq_nil_of_le (by omega)]
    simp
  | d + 1, i, k, hd, hk => by
    obtain ⟨k, rfl⟩ : ∃ m, k = m + 1 := ⟨k - 1, by omega⟩
    simp only [easementref01_Same.l0]
    have hi : i < l.length := by omega
    have hi' : i < m.length := by omega
    have e1 : (i : Int) + 1 = ((i + 1 : Nat) : Int) := by omega
    rw [if_pos (by omega), if_pos (by omega), if_pos (by omega), rd_eq hi, rd_eq hi', List.drop_eq_getElem_cons hi, List.drop_eq_getElem_cons hi', w64 _ (by omega) (by omega), e1, same_loop l m hl hm d (i + 1) k (by omega) (by omega)]
    by_cases c1 : l[i] = m[i]
    · rw [if_pos c1]
      congr 1
      apply decide_eq_decide.2
      rw [List.cons.injEq]
      exact ⟨fun h => ⟨c1, h⟩, fun h => h.2⟩
    · rw [if_neg c1, decide_eq_false]
      intro h
      rw [List.cons.injEq] at h
      exact c1 h.1
theorem same_eq (l m : List Int) (hl : l.length ≤ 1000) (k : Nat) (hk : l.length + 1 ≤ k) : easementref01_Same.f k l m = some (decide (l = m)) := by
  unfold easementref01_Same.f
  by_cases c : l.length = m.length
  · rw [if_pos (by omega)]
    exact same_loop l m hl c l.length 0 k (by omega) (by omega)
  · rw [if_neg (by omega), decide_eq_false]
    intro h
    exact c (by rw [h])
theorem tsame_eq (kind sig dst : Int) (tt args par : List Int) (h1 : tt.length ≤ 100) (h2 : args.length ≤ 100) (h3 : par.length ≤ 100) (k : Nat) (hk : 120 ≤ k) : easementref19_Same.f k kind sig dst tt args par kind sig dst tt args par = some true := by
  unfold easementref19_Same.f
  rw [if_pos rfl, if_pos rfl, if_pos rfl, same_eq tt tt (by omega) k (by omega), same_eq args args (by omega) k (by omega), same_eq par par (by omega) k (by omega)]
  simp
theorem putT_len (kind sig dst : Int) (tt args par : List Int) : (putT kind sig dst tt args par).length ≤ 5 * tt.length + 5 * args.length + 5 * par.length + 40 := by
  have b0 := putL_len kind
  have b1 := allL_len tt
  have b2 := lsL_len tt
  have b3 := lsL_len args
  have b4 := lsL_len par
  have b5 := allL_len [sig, dst, rd tt 0]
  simp only [List.length_cons, List.length_nil] at b5
  unfold putT
  rw [List.length_append]
  split
  · omega
  split
  · rw [List.length_append]; omega
  split
  · rw [List.length_append, List.length_append]; omega
  · simp only [List.length_nil]; omega
theorem tail_eq (k : Nat) (hk : 200 ≤ k) (s : ByteArray) (hs : s.size ≤ 300) (kind sig dst : Int) (tt args par : List Int) : easementlaw19_TermBack.j0 k s false kind sig dst tt args par = some true := by
  obtain ⟨k, rfl⟩ : ∃ m, k = m + 1 := ⟨k - 1, by omega⟩
  simp only [easementlaw19_TermBack.j0]
  rw [if_neg (by decide), plain_eq _ _ _ _ _ _ k (by omega)]
  simp only [Option.bind_some]
  cases hp : plT sig dst tt args par with
  | false =>
    simp only [Bool.false_eq_true, if_false]
    rw [tawake_eq k (by omega)]; rfl
  | true =>
    unfold plT at hp
    obtain ⟨l1, l2, l3, b1, b2, b3, b4, b5, b6⟩ := of_decide_eq_true hp
    simp only [if_true]
    rw [tput_eq _ _ _ _ _ _ (by omega) (by omega) (by omega) k (by omega)]
    simp only [Option.bind_some]
    by_cases c : fmT kind sig dst tt args par = 0
    · have hl := putT_len kind sig dst tt args par
      rw [if_pos c]
      dsimp only
      rw [if_pos rfl, strOf_size, if_pos (by omega), ttake_eq _ (by rw [ByteArray.size_append, strOf_size]; omega) k (by omega),
        tback c ⟨b4.1, by omega⟩ ⟨b5, by omega⟩ (fun x hx => ⟨(b1 x hx).1, by have := (b1 x hx).2; omega⟩) (fun x hx => ⟨(b2 x hx).1, by have := (b2 x hx).2; omega⟩) (fun x hx => ⟨(b3 x hx).1, by have := (b3 x hx).2; omega⟩) s]
      rw [Option.bind_some]
      dsimp only
      rw [if_pos rfl, if_pos rfl, tsame_eq _ _ _ _ _ _ (by omega) (by omega) (by omega) k (by omega), Option.bind_some, if_pos rfl, tawake_eq k (by omega)]
      rfl
    · rw [if_neg c]
      dsimp only
      rw [if_neg c, if_pos (by decide +kernel), tawake_eq k (by omega)]
      rfl
theorem TermBack : easementlaw19_TermBack.Pure := by
  intro kind sig dst tt args par s _ _
  refine ⟨220, ?_⟩
  unfold easementlaw19_TermBack.f
  by_cases c : (s.size : Int) > 300
  · rw [if_pos c, tawake_eq 220 (by omega)]; rfl
  rw [if_neg c, ttake_eq s (by omega) 220 (by omega), Option.bind_some]
  have rest := tail_eq 220 (by omega) s (by omega) kind sig dst tt args par
  obtain ⟨x1, x2, x3, y1, y2, y3, a, e, ht⟩ : ∃ x1 x2 x3 y1 y2 y3 a e, tkT s = (x1, x2, x3, y1, y2, y3, a, e) := ⟨_, _, _, _, _, _, _, _, rfl⟩
  by_cases h0 : e = 0
  · subst h0
    obtain ⟨hf, ha0, ha1, hp, l1, l2, l3⟩ := tfore s ht
    rw [ht]
    dsimp only
    rw [tput_eq _ _ _ _ _ _ (by omega) (by omega) (by omega) 220 (by omega), if_pos hf, Option.bind_some]
    dsimp only
    rw [if_pos rfl, if_pos rfl, if_pos ha0, if_pos ha1, extract_toList, strOf_toList, take_head s _ (by omega), hp]
    have e2 : (((head s a.toNat).map fun n => UInt8.ofNat n.toNat) != ((head s a.toNat).map fun n => UInt8.ofNat n.toNat)) = false := by simp
    rw [e2]
    exact rest
  · have hz : y1 = [] ∧ y2 = [] ∧ y3 = [] := by
      have hq : ∀ (kind sig dst : Int) (tt args par : List Int) (a e' : Int), tfin kind sig dst tt args par a e' = (x1, x2, x3, y1, y2, y3, a, e) → True := fun _ _ _ _ _ _ _ _ _ => trivial
      have fin : ∀ {kind sig dst : Int} {tt args par : List Int} {b e' : Int}, tfin kind sig dst tt args par b e' = (x1, x2, x3, y1, y2, y3, a, e) → y1 = [] ∧ y2 = [] ∧ y3 = [] := by
        intro kind sig dst tt args par b e' h
        unfold tfin at h
        split at h
        · simp only [Prod.mk.injEq] at h
          exact absurd h.2.2.2.2.2.2.2.symm h0
        · simp only [Prod.mk.injEq] at h
          exact ⟨h.2.2.2.1.symm, h.2.2.2.2.1.symm, h.2.2.2.2.2.1.symm⟩
      obtain ⟨n, b1, e1, hn⟩ : ∃ n b1 e1, nm s 0 0 = (n, b1, e1) := ⟨_, _, _, rfl⟩
      by_cases k1 : n = 1
      · subst k1; rw [tkT_1 hn rfl] at ht; exact fin ht
      by_cases k2 : n = 2
      · subst k2; rw [tkT_2 hn rfl rfl] at ht; exact fin ht
      by_cases k3 : n = 3
      · subst k3; rw [tkT_3 hn] at ht; exact fin ht
      by_cases k4 : n = 4
      · subst k4; rw [tkT_4 hn rfl rfl rfl rfl rfl] at ht; exact fin ht
      rw [tkT_o hn k1 k2 k3 k4] at ht; exact fin ht
    obtain ⟨rfl, rfl, rfl⟩ := hz
    rw [ht]
    dsimp only
    rw [tput_eq _ _ _ _ _ _ (by simp) (by simp) (by simp) 220 (by omega), Option.bind_some, if_neg h0]
    exact rest

end Go.Proofs.Ythhebinonpoddaa.Pure
