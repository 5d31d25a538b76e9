/- Pure part of LebBack: what was put is taken as it was, and the bytes of a greater number come behind, for every two numbers and every text -/
import Derived.Test.YtnabbhcagonlkaaPLebBackx2
import Derived.Laws.BitsLemmas
namespace Go.Proofs.Ytnabbhcagonlkaa.Pure
open Go.RowKit Go.Proofs.Ytnabbhcagonlkaa.PLebBack Go.Proofs.YtnabbhcagonlkaaW.PrintWords Go.Proofs.YtnabbhcagonlkaaW.PrintLast

/-! plain facts on numbers as bytes -/
theorem w64 (n : Int) (h0 : -9223372036854775808 ≤ n) (h1 : n < 9223372036854775808) : wrap64 n = n := by unfold wrap64; omega
/-- how many bytes follow -/
def mo (n : Int) : Int := if n < 248 then 0 else if n < 256 then 1 else if n < 65536 then 2 else if n < 16777216 then 3 else 4
theorem more_eq (n : Int) (h0 : 0 ≤ n) (h1 : n ≤ 4294967295) (k : Nat) (hk : 6 ≤ k) : leb_more.f k n = some (mo n) := by
  obtain ⟨m, rfl⟩ : ∃ m, k = m + 6 := ⟨k - 6, by omega⟩
  unfold leb_more.f mo
  have e1 : wrap64 (0 + 1) = 1 := by decide +kernel
  have e2 : wrap64 (1 + 1) = 2 := by decide +kernel
  have e3 : wrap64 (2 + 1) = 3 := by decide +kernel
  have e4 : wrap64 (3 + 1) = 4 := by decide +kernel
  simp only [leb_more.l0, e1, e2, e3, e4]
  by_cases c : n < 248
  · rw [if_neg (by omega), if_pos c]
  rw [if_pos (by omega), if_pos (by omega), if_neg c]
  by_cases c : n < 256
  · rw [if_pos (by omega), if_neg (by omega), if_pos c]
  rw [if_pos (by omega), if_pos (by omega), if_neg c]
  by_cases c : n < 65536
  · rw [if_pos (by omega), if_neg (by omega), if_pos c]
  rw [if_pos (by omega), if_pos (by omega), if_neg c]
  by_cases c : n < 16777216
  · rw [if_pos (by omega), if_neg (by omega), if_pos c]
  rw [if_pos (by omega), if_pos (by omega), if_neg c]
  rw [if_pos (by omega), if_neg (by omega)]
/-- a number's bytes -/
def putL (n : Int) : List Int := if n < 0 then [] else if n > 4294967295 then [] else if n < 248 then [n] else if n < 256 then [248, n] else if n < 65536 then [249, n / 256, n % 256] else if n < 16777216 then [250, n / 65536, n / 256 % 256, n % 256] else [251, n / 16777216, n / 65536 % 256, n / 256 % 256, n % 256]
theorem putL_none {n : Int} (h : n < 0 ∨ n > 4294967295) : putL n = [] := by
  unfold putL
  rcases h with h | h
  · rw [if_pos h]
  · rw [if_neg (by omega), if_pos h]
theorem strOf_nil : strOfNums [] = (⟨#[]⟩ : ByteArray) := rfl
theorem put_eq (n : Int) (k : Nat) (hk : 6 ≤ k) : leb_Put.f k n = some (strOfNums (putL n)) := by
  unfold leb_Put.f leb_Size.f
  by_cases c0 : n < 0
  · rw [if_pos c0, putL_none (.inl c0)]
    simp only [Option.bind_some]
    rw [if_pos (by decide +kernel), strOf_nil]
  rw [if_neg c0]
  by_cases c1 : n > 4294967295
  · rw [if_pos c1, putL_none (.inr c1)]
    simp only [Option.bind_some]
    rw [if_pos (by decide +kernel), strOf_nil]
  rw [if_neg c1, more_eq n (by omega) (by omega) k hk]
  simp only [Option.bind_some]
  unfold putL
  rw [if_neg c0, if_neg c1]
  obtain ⟨m, rfl⟩ : ∃ m, k = m + 6 := ⟨k - 6, by omega⟩
  unfold mo
  by_cases c : n < 248
  · rw [if_pos c, if_pos c, if_neg (by decide +kernel), if_pos (by decide +kernel), show n % 256 = n by omega]
  rw [if_neg c, if_neg c]
  by_cases c : n < 256
  · rw [if_pos c, if_pos c]
    rw [show wrap64 (wrap64 (1 + 1) - 1) = 1 by decide +kernel, if_neg (by decide +kernel), if_neg (by decide +kernel), if_pos (by decide +kernel), if_pos (by decide +kernel)]
    simp only [leb_Put.l0, show wrap64 (1 - 1) = 0 by decide +kernel, show wrap64 (1 + 1) = 2 by decide +kernel, show wrap64 (247 + 1) = 248 by decide +kernel]
    simp [List.replicate, show n % 256 = n by omega]
  rw [if_neg c, if_neg c]
  by_cases c : n < 65536
  · rw [if_pos c, if_pos c]
    rw [show wrap64 (wrap64 (1 + 2) - 1) = 2 by decide +kernel, if_neg (by decide +kernel), if_neg (by decide +kernel), if_pos (by decide +kernel), if_pos (by decide +kernel)]
    simp only [leb_Put.l0, show wrap64 (1 - 1) = 0 by decide +kernel, show wrap64 (2 - 1) = 1 by decide +kernel, show wrap64 (1 + 2) = 3 by decide +kernel, show wrap64 (247 + 2) = 249 by decide +kernel]
    simp [List.replicate, show n / 256 % 256 = n / 256 by omega]
  rw [if_neg c, if_neg c]
  by_cases c : n < 16777216
  · rw [if_pos c, if_pos c]
    rw [show wrap64 (wrap64 (1 + 3) - 1) = 3 by decide +kernel, if_neg (by decide +kernel), if_neg (by decide +kernel), if_pos (by decide +kernel), if_pos (by decide +kernel)]
    simp only [leb_Put.l0, show wrap64 (1 - 1) = 0 by decide +kernel, show wrap64 (2 - 1) = 1 by decide +kernel, show wrap64 (3 - 1) = 2 by decide +kernel, show wrap64 (1 + 3) = 4 by decide +kernel, show wrap64 (247 + 3) = 250 by decide +kernel]
    simp [List.replicate, show n / 256 / 256 % 256 = n / 65536 by omega]
  rw [if_neg c, if_neg c]
  rw [show wrap64 (wrap64 (1 + 4) - 1) = 4 by decide +kernel, if_neg (by decide +kernel), if_neg (by decide +kernel), if_pos (by decide +kernel), if_pos (by decide +kernel)]
  simp only [leb_Put.l0, show wrap64 (1 - 1) = 0 by decide +kernel, show wrap64 (2 - 1) = 1 by decide +kernel, show wrap64 (3 - 1) = 2 by decide +kernel, show wrap64 (4 - 1) = 3 by decide +kernel, show wrap64 (1 + 4) = 5 by decide +kernel, show wrap64 (247 + 4) = 251 by decide +kernel]
  simp [List.replicate, show n / 256 / 256 / 256 % 256 = n / 16777216 by omega, show n / 256 / 256 % 256 = n / 65536 % 256 by omega]
/-- all are bytes -/
theorem putL_bytes (n : Int) : ∀ x ∈ putL n, 0 ≤ x ∧ x < 256 := by
  unfold putL
  intro x hx
  repeat' split at hx
  all_goals simp at hx
  all_goals omega
theorem strOf_toList (l : List Int) : (strOfNums l).toList = l.map fun n => UInt8.ofNat n.toNat := by
  simp [strOfNums]
theorem strOf_append (a b : List Int) : strOfNums a ++ strOfNums b = strOfNums (a ++ b) := by
  apply ByteArray.ext
  simp [strOfNums]
theorem strOf_size (a : List Int) : (strOfNums a).size = a.length := by simp [strOfNums, ByteArray.size]
/-- so many bytes of s from place i on, behind n -/
def fold (s : ByteArray) : Nat → Int → Int → Int
  | 0, _, n => n
  | d + 1, i, n => fold s d (i + 1) (n * 256 + bt s i)
def Below256 (i n : Int) : Prop := 0 ≤ n ∧ (i = 1 → n = 0) ∧ (i = 2 → n < 256) ∧ (i = 3 → n < 65536) ∧ (i = 4 → n < 16777216) ∧ (i = 5 → n < 4294967296)
theorem or256 {n b : Int} (h0 : 0 ≤ n) (h1 : n < 16777216) (b0 : 0 ≤ b) (b1 : b < 256) : Go.bits .or .i64 (wrap64 (n * 256)) (wrap64 b) = n * 256 + b := by
  rw [w64 _ (by omega) (by omega), w64 _ (by omega) (by omega)]
  exact bits_join .i64 40 (by decide +kernel) (fun m _ h => by have h' : m < 1099511627776 := h; exact IntWalk.i64_in m (by omega)) 8 _ _ (by omega) (by omega) (by omega) (by omega) (by omega) (by omega)
theorem below_next {s : ByteArray} {i n : Int} (hi : 1 ≤ i) (h4 : i ≤ 4) (hb : Below256 i n) : Below256 (i + 1) (n * 256 + bt s i) ∧ n < 16777216 := by
  have hr := bt_range s i
  unfold Below256 at hb ⊢
  obtain ⟨h0, h1, h2, h3, h5, h6⟩ := hb
  refine ⟨⟨by omega, fun h => by omega, fun h => ?_, fun h => ?_, fun h => ?_, fun h => ?_⟩, by omega⟩
  · have := h1 (by omega); omega
  · have := h2 (by omega); omega
  · have := h3 (by omega); omega
  · have := h5 (by omega); omega
theorem fold_below (s : ByteArray) : ∀ (d : Nat) (i n : Int), 1 ≤ i → i + d ≤ 5 → Below256 i n → Below256 (i + d) (fold s d i n)
  | 0, i, n, _, _, hb => by simpa [fold] using hb
  | d + 1, i, n, h1, h5, hb => by
    have := fold_below s d (i + 1) (n * 256 + bt s i) (by omega) (by omega) (below_next h1 (by omega) hb).1
    have e : i + ((d + 1 : Nat) : Int) = i + 1 + (d : Int) := by omega
    rw [e]; exact this
theorem loop_take (s : ByteArray) (q : Int) (hq : q ≤ 4) (hs : q < s.size) (hq1 : 1 ≤ q) : ∀ (d k : Nat) (i n : Int), i + d = q + 1 → 1 ≤ i → Below256 i n → d + 7 ≤ k →
    leb_Take.l0 k s q n i = (if mo (fold s d i n) = q then some (fold s d i n, 1 + q, 0) else some (0, 0, 3))
  | 0, k, i, n, hd, h1, hb, hk => by
    obtain ⟨k, rfl⟩ : ∃ m, k = m + 1 := ⟨k - 1, by omega⟩
    have hi : i = q + 1 := by omega
    simp only [leb_Take.l0]
    rw [if_neg (by omega)]
    unfold Below256 at hb
    rw [more_eq n hb.1 (by omega) k (by omega), w64 (1 + q) (by omega) (by omega)]
    rfl
  | d + 1, k, i, n, hd, h1, hb, hk => by
    obtain ⟨k, rfl⟩ : ∃ m, k = m + 1 := ⟨k - 1, by omega⟩
    have hbn := below_next (s := s) h1 (by omega) hb
    have hr := bt_range s i
    simp only [leb_Take.l0]
    rw [if_pos (by omega), if_pos (by omega), if_pos (by omega), or256 hb.1 hbn.2 hr.1 (by omega), w64 (i + 1) (by omega) (by omega)]
    exact loop_take s q hq hs hq1 d k (i + 1) _ (by omega) (by omega) hbn.1 (by omega)
/-- what bytes begin with -/
def tk (s : ByteArray) : Int × Int × Int :=
  if s.size = 0 then (0, 0, 4) else if bt s 0 < 248 then (bt s 0, 1, 0) else if bt s 0 > 251 then (0, 0, 3) else
  if (s.size : Int) ≤ bt s 0 - 247 then (0, 0, 4) else
  if mo (fold s (bt s 0 - 247).toNat 1 0) = bt s 0 - 247 then (fold s (bt s 0 - 247).toNat 1 0, 1 + (bt s 0 - 247), 0) else (0, 0, 3)
theorem nil_iff (s : ByteArray) : s.toList = [] ↔ s.size = 0 := by
  rw [ByteArray.toList_eq]
  have : s.size = s.data.toList.length := Array.length_toList.symm
  rw [this, List.length_eq_zero_iff]
theorem take_eq (s : ByteArray) (k : Nat) (hk : 12 ≤ k) : leb_Take.f k s = some (tk s) := by
  have hr := bt_range s 0
  unfold leb_Take.f tk
  by_cases c : s.size = 0
  · rw [if_pos ((nil_iff s).2 c), if_pos c]
  rw [if_neg (fun h => c ((nil_iff s).1 h)), if_neg c, if_pos (by omega), w64 (bt s 0) (by omega) (by omega), w64 (bt s 0 - 248) (by omega) (by omega), w64 _ (by omega) (by omega)]
  by_cases c1 : bt s 0 < 248
  · rw [if_pos (by omega), if_pos c1]
  rw [if_neg (by omega), if_neg c1]
  by_cases c2 : bt s 0 > 251
  · rw [if_pos (by omega), if_pos c2]
  rw [if_neg (by omega), if_neg c2]
  have e : bt s 0 - 248 + 1 = bt s 0 - 247 := by omega
  rw [e]
  by_cases c3 : (s.size : Int) ≤ bt s 0 - 247
  · rw [if_pos c3, if_pos c3]
  rw [if_neg c3, if_neg c3, loop_take s (bt s 0 - 247) (by omega) (by omega) (by omega) (bt s 0 - 247).toNat k 1 0 (by omega) (by omega) ⟨by omega, by omega, by omega, by omega, by omega, by omega⟩ (by omega)]
  split <;> rfl
theorem u8_inj {a b : Int} (a0 : 0 ≤ a) (a1 : a < 256) (b0 : 0 ≤ b) (b1 : b < 256) : UInt8.ofNat a.toNat = UInt8.ofNat b.toNat ↔ a = b := by
  constructor
  · intro h
    have h' := congrArg UInt8.toNat h
    simp only [UInt8.toNat_ofNat'] at h'
    omega
  · intro h; rw [h]
theorem getD_bt (s : ByteArray) (i : Nat) (h : i < s.size) : s.toList[i]? = some (UInt8.ofNat (bt s i).toNat) := by
  rw [ByteArray.toList_eq, Array.getElem?_toList, Array.getElem?_eq_getElem (by simpa using h)]
  unfold bt
  rw [dif_pos (by simpa using h)]
  congr 1
  simp [ByteArray.getElem_eq_getElem_data]
theorem extract_toList (s : ByteArray) (k : Nat) : (s.extract 0 k).toList = s.toList.take k := by
  rw [ByteArray.toList_eq, ByteArray.toList_eq, ByteArray.data_extract]
  simp
theorem map_inj : ∀ (l m : List Int), (∀ x ∈ l, 0 ≤ x ∧ x < 256) → (∀ x ∈ m, 0 ≤ x ∧ x < 256) → (l.map (fun n => UInt8.ofNat n.toNat) = m.map (fun n => UInt8.ofNat n.toNat) ↔ l = m)
  | [], [], _, _ => by simp
  | [], _ :: _, _, _ => by simp
  | _ :: _, [], _, _ => by simp
  | a :: l, b :: m, hl, hm => by
    have ha := hl a (by simp)
    have hb := hm b (by simp)
    simp only [List.map_cons, List.cons.injEq, u8_inj ha.1 ha.2 hb.1 hb.2, map_inj l m (fun x hx => hl x (by simp [hx])) (fun x hx => hm x (by simp [hx]))]
/-- the first bytes, as numbers -/
def head (s : ByteArray) : Nat → List Int
  | 0 => []
  | k + 1 => head s k ++ [bt s k]
theorem head_bytes (s : ByteArray) : ∀ k, ∀ x ∈ head s k, 0 ≤ x ∧ x < 256
  | 0, x, h => by simp [head] at h
  | k + 1, x, h => by
    simp only [head, List.mem_append, List.mem_singleton] at h
    rcases h with h | h
    · exact head_bytes s k x h
    · have := bt_range s k; omega
theorem take_head (s : ByteArray) : ∀ k, k ≤ s.size → s.toList.take k = (head s k).map fun n => UInt8.ofNat n.toNat
  | 0, _ => by simp [head]
  | k + 1, h => by
    rw [List.take_add_one, take_head s k (by omega), getD_bt s k (by omega)]
    simp [head]
/-- as many bytes as the number has: just if they are the number's -/
theorem mo_put (s : ByteArray) (q : Nat) (h1 : 1 ≤ q) (h4 : q ≤ 4) (h0 : bt s 0 = 247 + q) : mo (fold s q 1 0) = q ↔ putL (fold s q 1 0) = head s (1 + q) := by
  have r1 := bt_range s 1
  have r2 := bt_range s 2
  have r3 := bt_range s 3
  have r4 := bt_range s 4
  have h0' : bt s ((0 : Nat) : Int) = 247 + q := h0
  obtain rfl | rfl | rfl | rfl : q = 1 ∨ q = 2 ∨ q = 3 ∨ q = 4 := by omega
  all_goals simp only [fold, head, List.nil_append, List.cons_append, h0']
  all_goals simp only [Int.reduceAdd, Int.natCast_one, Int.zero_add, Int.zero_mul]
  · generalize bt s 1 = b1 at *
    unfold mo putL
    repeat' split
    all_goals simp
    all_goals omega
  · generalize bt s 1 = b1 at *
    generalize bt s 2 = b2 at *
    unfold mo putL
    repeat' split
    all_goals simp
    all_goals omega
  · generalize bt s 1 = b1 at *
    generalize bt s 2 = b2 at *
    generalize bt s 3 = b3 at *
    unfold mo putL
    repeat' split
    all_goals simp
    all_goals omega
  · generalize bt s 1 = b1 at *
    generalize bt s 2 = b2 at *
    generalize bt s 3 = b3 at *
    generalize bt s 4 = b4 at *
    unfold mo putL
    repeat' split
    all_goals simp
    all_goals omega
theorem awake_eq (k : Nat) (hk : 12 ≤ k) : easementlaw02_awake.f k = some true := by
  unfold easementlaw02_awake.f
  rw [take_eq _ k hk, put_eq 247 k (by omega), put_eq 248 k (by omega), put_eq 256 k (by omega)]
  simp only [Option.bind_some, strOf_toList]
  decide +kernel
/-- the lesser of two rows of bytes -/
def lessL : List Int → List Int → Bool
  | _, [] => false
  | [], _ :: _ => true
  | a :: x, b :: y => decide (a < b) || (decide (a = b) && lessL x y)
theorem less_map : ∀ (l m : List Int), (∀ x ∈ l, 0 ≤ x ∧ x < 256) → (∀ x ∈ m, 0 ≤ x ∧ x < 256) → Op.bytesLess (l.map fun n => UInt8.ofNat n.toNat) (m.map fun n => UInt8.ofNat n.toNat) = lessL l m
  | [], [], _, _ => rfl
  | [], _ :: _, _, _ => rfl
  | _ :: _, [], _, _ => rfl
  | a :: l, b :: m, hl, hm => by
    have ha := hl a (by simp)
    have hb := hm b (by simp)
    simp only [List.map_cons, Op.bytesLess, lessL, less_map l m (fun x hx => hl x (by simp [hx])) (fun x hx => hm x (by simp [hx]))]
    have e1 : decide (UInt8.ofNat a.toNat < UInt8.ofNat b.toNat) = decide (a < b) := by
      rw [decide_eq_decide, UInt8.lt_iff_toNat_lt]
      simp only [UInt8.toNat_ofNat']
      omega
    have e2 : (UInt8.ofNat a.toNat == UInt8.ofNat b.toNat) = decide (a = b) := by
      rw [Bool.eq_iff_iff, beq_iff_eq, decide_eq_true_iff]
      exact u8_inj ha.1 ha.2 hb.1 hb.2
    rw [e1, e2]
theorem less_put {a b : Int} (a0 : 0 ≤ a) (a1 : a ≤ 4294967295) (b0 : 0 ≤ b) (b1 : b ≤ 4294967295) : lessL (putL a) (putL b) = decide (a < b) := by
  unfold putL
  rw [if_neg (show ¬ a < 0 by omega), if_neg (show ¬ a > 4294967295 by omega), if_neg (show ¬ b < 0 by omega), if_neg (show ¬ b > 4294967295 by omega)]
  repeat' split
  all_goals simp only [lessL]
  all_goals rw [Bool.eq_iff_iff]
  all_goals simp
  all_goals omega
theorem bt_append (l : List Int) (hl : ∀ x ∈ l, 0 ≤ x ∧ x < 256) (s : ByteArray) (i : Nat) (h : i < l.length) : bt (strOfNums l ++ s) i = l[i] := by
  have hb := hl l[i] (List.getElem_mem h)
  have hs : i < (strOfNums l ++ s).size := by rw [ByteArray.size_append, strOf_size]; omega
  have e := getD_bt (strOfNums l ++ s) i hs
  have ht : (strOfNums l ++ s).toList = (l.map fun n => UInt8.ofNat n.toNat) ++ s.toList := by
    rw [ByteArray.toList_eq, ByteArray.toList_eq]; simp [strOfNums]
  rw [ht, List.getElem?_append_left (by simpa using h), List.getElem?_map, List.getElem?_eq_getElem h] at e
  simp only [Option.map_some, Option.some.injEq] at e
  have hr := bt_range (strOfNums l ++ s) i
  exact ((u8_inj hb.1 hb.2 hr.1 (by omega)).1 e).symm
theorem put_some {n : Int} (h0 : 0 ≤ n) (h1 : n ≤ 4294967295) : (putL n).length = 1 + (mo n).toNat ∧ 0 ≤ mo n ∧ mo n ≤ 4 ∧ (mo n = 0 ↔ n < 248) := by
  unfold putL mo
  rw [if_neg (show ¬ n < 0 by omega), if_neg (show ¬ n > 4294967295 by omega)]
  repeat' split
  all_goals simp
  all_goals omega
theorem tk_put {n : Int} (h0 : 0 ≤ n) (h1 : n ≤ 4294967295) (s : ByteArray) : tk (strOfNums (putL n) ++ s) = (n, ((putL n).length : Int), 0) := by
  have hb := putL_bytes n
  have hp := put_some h0 h1
  have hz : (strOfNums (putL n) ++ s).size = (putL n).length + s.size := by rw [ByteArray.size_append, strOf_size]
  have B := bt_append (putL n) hb s
  generalize hS : strOfNums (putL n) ++ s = S at *
  have b0 : bt S 0 = bt S ((0 : Nat) : Int) := rfl
  have b1 : bt S 1 = bt S ((1 : Nat) : Int) := rfl
  have b2 : bt S 2 = bt S ((2 : Nat) : Int) := rfl
  have b3 : bt S 3 = bt S ((3 : Nat) : Int) := rfl
  have b4 : bt S 4 = bt S ((4 : Nat) : Int) := rfl
  unfold tk
  rw [if_neg (by omega)]
  by_cases c0 : n < 248
  · have e : putL n = [n] := by unfold putL; rw [if_neg (by omega), if_neg (by omega), if_pos c0]
    have e0 : bt S 0 = n := by rw [b0, B 0 (by rw [e]; simp)]; simp [e]
    rw [e0, if_pos c0, e]; rfl
  by_cases c1 : n < 256
  · have e : putL n = [248, n] := by unfold putL; rw [if_neg (by omega), if_neg (by omega), if_neg c0, if_pos c1]
    have e0 : bt S 0 = 248 := by rw [b0, B 0 (by rw [e]; simp)]; simp [e]
    have e1 : bt S 1 = n := by rw [b1, B 1 (by rw [e]; simp)]; simp [e]
    rw [e] at hz
    simp at hz
    rw [e0, if_neg (by omega), if_neg (by omega), if_neg (by omega), show ((248 : Int) - 247).toNat = 1 by omega]
    have hf : fold S 1 1 0 = n := by simp only [fold, e1]; omega
    rw [hf, if_pos (by unfold mo; rw [if_neg c0, if_pos c1]; omega), e]; rfl
  by_cases c2 : n < 65536
  · have e : putL n = [249, n / 256, n % 256] := by unfold putL; rw [if_neg (by omega), if_neg (by omega), if_neg c0, if_neg c1, if_pos c2]
    have e0 : bt S 0 = 249 := by rw [b0, B 0 (by rw [e]; simp)]; simp [e]
    have e1 : bt S 1 = n / 256 := by rw [b1, B 1 (by rw [e]; simp)]; simp [e]
    have e2 : bt S 2 = n % 256 := by rw [b2, B 2 (by rw [e]; simp)]; simp [e]
    rw [e] at hz
    simp at hz
    rw [e0, if_neg (by omega), if_neg (by omega), if_neg (by omega), show ((249 : Int) - 247).toNat = 2 by omega]
    have hf : fold S 2 1 0 = n := by simp only [fold, e1, Int.reduceAdd, e2]; omega
    rw [hf, if_pos (by unfold mo; rw [if_neg c0, if_neg c1, if_pos c2]; omega), e]; rfl
  by_cases c3 : n < 16777216
  · have e : putL n = [250, n / 65536, n / 256 % 256, n % 256] := by unfold putL; rw [if_neg (by omega), if_neg (by omega), if_neg c0, if_neg c1, if_neg c2, if_pos c3]
    have e0 : bt S 0 = 250 := by rw [b0, B 0 (by rw [e]; simp)]; simp [e]
    have e1 : bt S 1 = n / 65536 := by rw [b1, B 1 (by rw [e]; simp)]; simp [e]
    have e2 : bt S 2 = n / 256 % 256 := by rw [b2, B 2 (by rw [e]; simp)]; simp [e]
    have e3 : bt S 3 = n % 256 := by rw [b3, B 3 (by rw [e]; simp)]; simp [e]
    rw [e] at hz
    simp at hz
    rw [e0, if_neg (by omega), if_neg (by omega), if_neg (by omega), show ((250 : Int) - 247).toNat = 3 by omega]
    have hf : fold S 3 1 0 = n := by simp only [fold, e1, Int.reduceAdd, e2, e3]; omega
    rw [hf, if_pos (by unfold mo; rw [if_neg c0, if_neg c1, if_neg c2, if_pos c3]; omega), e]; rfl
  have e : putL n = [251, n / 16777216, n / 65536 % 256, n / 256 % 256, n % 256] := by unfold putL; rw [if_neg (by omega), if_neg (by omega), if_neg c0, if_neg c1, if_neg c2, if_neg c3]
  have e0 : bt S 0 = 251 := by rw [b0, B 0 (by rw [e]; simp)]; simp [e]
  have e1 : bt S 1 = n / 16777216 := by rw [b1, B 1 (by rw [e]; simp)]; simp [e]
  have e2 : bt S 2 = n / 65536 % 256 := by rw [b2, B 2 (by rw [e]; simp)]; simp [e]
  have e3 : bt S 3 = n / 256 % 256 := by rw [b3, B 3 (by rw [e]; simp)]; simp [e]
  have e4 : bt S 4 = n % 256 := by rw [b4, B 4 (by rw [e]; simp)]; simp [e]
  rw [e] at hz
  simp at hz
  rw [e0, if_neg (by omega), if_neg (by omega), if_neg (by omega), show ((251 : Int) - 247).toNat = 4 by omega]
  have hf : fold S 4 1 0 = n := by simp only [fold, e1, Int.reduceAdd, e2, e3, e4]; omega
  rw [hf, if_pos (by unfold mo; rw [if_neg c0, if_neg c1, if_neg c2, if_neg c3]; omega), e]; rfl
theorem tk_ok {s : ByteArray} {y j : Int} (h : tk s = (y, j, 0)) : 1 ≤ j ∧ j ≤ s.size ∧ putL y = head s j.toNat := by
  have hr := bt_range s 0
  unfold tk at h
  by_cases c : s.size = 0
  · rw [if_pos c] at h; simp at h
  rw [if_neg c] at h
  by_cases c1 : bt s 0 < 248
  · rw [if_pos c1] at h
    simp only [Prod.mk.injEq, and_true] at h
    obtain ⟨rfl, rfl⟩ := h
    refine ⟨by omega, by omega, ?_⟩
    unfold putL
    rw [if_neg (by omega), if_neg (by omega), if_pos c1]
    simp [head]
  rw [if_neg c1] at h
  by_cases c2 : bt s 0 > 251
  · rw [if_pos c2] at h; simp at h
  rw [if_neg c2] at h
  by_cases c3 : (s.size : Int) ≤ bt s 0 - 247
  · rw [if_pos c3] at h; simp at h
  rw [if_neg c3] at h
  by_cases c4 : mo (fold s (bt s 0 - 247).toNat 1 0) = bt s 0 - 247
  · rw [if_pos c4] at h
    simp only [Prod.mk.injEq, and_true] at h
    obtain ⟨rfl, rfl⟩ := h
    refine ⟨by omega, by omega, ?_⟩
    have key := mo_put s (bt s 0 - 247).toNat (by omega) (by omega) (by omega)
    rw [show (1 + (bt s 0 - 247)).toNat = 1 + (bt s 0 - 247).toNat by omega]
    exact key.1 (by omega)
  · rw [if_neg c4] at h; simp at h
theorem j0_true (k : Nat) (s : ByteArray) (hk : 20 ≤ k) : easementlaw02_LebBack.j0 k s false = some true := by
  obtain ⟨k, rfl⟩ : ∃ m, k = m + 1 := ⟨k - 1, by omega⟩
  simp only [easementlaw02_LebBack.j0]
  rw [if_neg (by simp), take_eq s k (by omega), awake_eq k (by omega)]
  simp only [Option.bind_some]
  obtain ⟨⟨y, j, e⟩, hy⟩ : ∃ r, r = tk s := ⟨_, rfl⟩
  rw [← hy]
  by_cases c : e = 0
  · subst c
    obtain ⟨h1, h2, h3⟩ := tk_ok hy.symm
    rw [if_pos rfl, if_pos h1, if_pos h2, put_eq y k (by omega)]
    simp only [Option.bind_some]
    rw [if_pos (by omega), extract_toList, strOf_toList, take_head s _ (by omega), h3, if_pos rfl]
  · rw [if_neg c]
theorem putL_nil {n : Int} : putL n = [] ↔ ¬ (0 ≤ n ∧ n ≤ 4294967295) := by
  constructor
  · intro h c
    have := (put_some c.1 c.2).1
    rw [h] at this
    simp at this
    omega
  · intro h
    exact putL_none (by omega)
theorem LebBack : easementlaw02_LebBack.Pure := by
  intro n m s _ _ hs
  refine ⟨20, ?_⟩
  unfold easementlaw02_LebBack.f
  rw [awake_eq 20 (by omega), put_eq n 20 (by omega), put_eq m 20 (by omega)]
  simp only [Option.bind_some]
  by_cases c : (s.size : Int) > 500
  · rw [if_pos c]
  have hl : (strOfNums (putL n)).size ≤ 5 := by
    have e : (strOfNums (putL n)).size = (putL n).length := strOf_size _
    rw [e]
    unfold putL
    repeat' split
    all_goals simp
  rw [if_neg c, if_pos (by omega), take_eq _ 20 (by omega)]
  simp only [Option.bind_some, strOf_toList, List.map_eq_nil_iff]
  by_cases c1 : 0 ≤ n ∧ n ≤ 4294967295
  · rw [if_neg (fun h => putL_nil.1 h c1), tk_put c1.1 c1.2 s]
    have e : (strOfNums (putL n)).size = (putL n).length := strOf_size _
    rw [if_pos rfl, if_pos (by rw [e]), if_pos rfl]
    by_cases c2 : 0 ≤ m ∧ m ≤ 4294967295
    · rw [if_neg (fun h => putL_nil.1 h c2), less_map _ _ (putL_bytes n) (putL_bytes m), less_put c1.1 c1.2 c2.1 c2.2]
      rw [show (decide (n < m) != decide (n < m)) = false by simp]
      exact j0_true 20 s (by omega)
    · rw [if_pos (putL_nil.2 c2)]
      exact j0_true 20 s (by omega)
  · rw [if_pos (putL_nil.2 c1)]
    exact j0_true 20 s (by omega)

end Go.Proofs.Ytnabbhcagonlkaa.Pure
