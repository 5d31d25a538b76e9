/- Pure part of GStmtTakes: the statement with which any bytes begin, or why there is none, and any statement's bytes are the same in the program and in the reference -/
import Derived.Test.YthhebinonpoddaaGStmtTakesxopen
import Derived.Laws.BitsLemmas
namespace Go.Proofs.Ythhebinonpoddaa.Pure
open Go.RowKit Go.Proofs.Ythhebinonpoddaa.GStmtTakes Go.Proofs.YthhebinonpoddaaW.PrintWords Go.Proofs.YthhebinonpoddaaW.PrintLast
set_option linter.unusedSimpArgs false
set_option linter.unusedVariables false

/-! plain facts on numbers as bytes -/
theorem w64 (n : Int) (h0 : -9223372036854775808 ≤ n) (h1 : n < 9223372036854775808) : wrap64 n = n := by unfold wrap64; omega
/-- how many bytes follow -/
def mo (n : Int) : Int := if n < 248 then 0 else if n < 256 then 1 else if n < 65536 then 2 else if n < 16777216 then 3 else 4
theorem more_eq (n : Int) (h0 : 0 ≤ n) (h1 : n ≤ 4294967295) (k : Nat) (hk : 6 ≤ k) : leb_more.f k n = some (mo n) := by
  obtain ⟨m, rfl⟩ : ∃ m, k = m + 6 := ⟨k - 6, by omega⟩
  unfold leb_more.f mo
  have e1 : wrap64 (0 + 1) = 1 := by decide +kernel
  have e2 : wrap64 (1 + 1) = 2 := by decide +kernel
  have e3 : wrap64 (2 + 1) = 3 := by decide +kernel
  have e4 : wrap64 (3 + 1) = 4 := by decide +kernel
  simp only [leb_more.l0, e1, e2, e3, e4]
  by_cases c : n < 248
  · rw [if_neg (by omega), if_pos c]
  rw [if_pos (by omega), if_pos (by omega), if_neg c]
  by_cases c : n < 256
  · rw [if_pos (by omega), if_neg (by omega), if_pos c]
  rw [if_pos (by omega), if_pos (by omega), if_neg c]
  by_cases c : n < 65536
  · rw [if_pos (by omega), if_neg (by omega), if_pos c]
  rw [if_pos (by omega), if_pos (by omega), if_neg c]
  by_cases c : n < 16777216
  · rw [if_pos (by omega), if_neg (by omega), if_pos c]
  rw [if_pos (by omega), if_pos (by omega), if_neg c]
  rw [if_pos (by omega), if_neg (by omega)]
/-- a number's bytes -/
def putL (n : Int) : List Int := if n < 0 then [] else if n > 4294967295 then [] else if n < 248 then [n] else if n < 256 then [248, n] else if n < 65536 then [249, n / 256, n % 256] else if n < 16777216 then [250, n / 65536, n / 256 % 256, n % 256] else [251, n / 16777216, n / 65536 % 256, n / 256 % 256, n % 256]
theorem putL_none {n : Int} (h : n < 0 ∨ n > 4294967295) : putL n = [] := by
  unfold putL
  rcases h with h | h
  · rw [if_pos h]
  · rw [if_neg (by omega), if_pos h]
theorem strOf_nil : strOfNums [] = (⟨#[]⟩ : ByteArray) := rfl
theorem put_eq (n : Int) (k : Nat) (hk : 6 ≤ k) : leb_Put.f k n = some (strOfNums (putL n)) := by
  unfold leb_Put.f leb_Size.f
  by_cases c0 : n < 0
  · rw [if_pos c0, putL_none (.inl c0)]
    simp only [Option.bind_some]
    rw [if_pos (by decide +kernel), strOf_nil]
  rw [if_neg c0]
  by_cases c1 : n > 4294967295
  · rw [if_pos c1, putL_none (.inr c1)]
    simp only [Option.bind_some]
    rw [if_pos (by decide +kernel), strOf_nil]
  rw [if_neg c1, more_eq n (by omega) (by omega) k hk]
  simp only [Option.bind_some]
  unfold putL
  rw [if_neg c0, if_neg c1]
  obtain ⟨m, rfl⟩ : ∃ m, k = m + 6 := ⟨k - 6, by omega⟩
  unfold mo
  by_cases c : n < 248
  · rw [if_pos c, if_pos c, if_neg (by decide +kernel), if_pos (by decide +kernel), show n % 256 = n by omega]
  rw [if_neg c, if_neg c]
  by_cases c : n < 256
  · rw [if_pos c, if_pos c]
    rw [show wrap64 (wrap64 (1 + 1) - 1) = 1 by decide +kernel, if_neg (by decide +kernel), if_neg (by decide +kernel), if_pos (by decide +kernel), if_pos (by decide +kernel)]
    simp only [leb_Put.l0, show wrap64 (1 - 1) = 0 by decide +kernel, show wrap64 (1 + 1) = 2 by decide +kernel, show wrap64 (247 + 1) = 248 by decide +kernel]
    simp [List.replicate, show n % 256 = n by omega]
  rw [if_neg c, if_neg c]
  by_cases c : n < 65536
  · rw [if_pos c, if_pos c]
    rw [show wrap64 (wrap64 (1 + 2) - 1) = 2 by decide +kernel, if_neg (by decide +kernel), if_neg (by decide +kernel), if_pos (by decide +kernel), if_pos (by decide +kernel)]
    simp only [leb_Put.l0, show wrap64 (1 - 1) = 0 by decide +kernel, show wrap64 (2 - 1) = 1 by decide +kernel, show wrap64 (1 + 2) = 3 by decide +kernel, show wrap64 (247 + 2) = 249 by decide +kernel]
    simp [List.replicate, show n / 256 % 256 = n / 256 by omega]
  rw [if_neg c, if_neg c]
  by_cases c : n < 16777216
  · rw [if_pos c, if_pos c]
    rw [show wrap64 (wrap64 (1 + 3) - 1) = 3 by decide +kernel, if_neg (by decide +kernel), if_neg (by decide +kernel), if_pos (by decide +kernel), if_pos (by decide +kernel)]
    simp only [leb_Put.l0, show wrap64 (1 - 1) = 0 by decide +kernel, show wrap64 (2 - 1) = 1 by decide +kernel, show wrap64 (3 - 1) = 2 by decide +kernel, show wrap64 (1 + 3) = 4 by decide +kernel, show wrap64 (247 + 3) = 250 by decide +kernel]
    simp [List.replicate, show n / 256 / 256 % 256 = n / 65536 by omega]
  rw [if_neg c, if_neg c]
  rw [show wrap64 (wrap64 (1 + 4) - 1) = 4 by decide +kernel, if_neg (by decide +kernel), if_neg (by decide +kernel), if_pos (by decide +kernel), if_pos (by decide +kernel)]
  simp only [leb_Put.l0, show wrap64 (1 - 1) = 0 by decide +kernel, show wrap64 (2 - 1) = 1 by decide +kernel, show wrap64 (3 - 1) = 2 by decide +kernel, show wrap64 (4 - 1) = 3 by decide +kernel, show wrap64 (1 + 4) = 5 by decide +kernel, show wrap64 (247 + 4) = 251 by decide +kernel]
  simp [List.replicate, show n / 256 / 256 / 256 % 256 = n / 16777216 by omega, show n / 256 / 256 % 256 = n / 65536 % 256 by omega]
/-- all are bytes -/
theorem putL_bytes (n : Int) : ∀ x ∈ putL n, 0 ≤ x ∧ x < 256 := by
  unfold putL
  intro x hx
  repeat' split at hx
  all_goals simp at hx
  all_goals omega
theorem strOf_toList (l : List Int) : (strOfNums l).toList = l.map fun n => UInt8.ofNat n.toNat := by
  simp [strOfNums]
theorem strOf_append (a b : List Int) : strOfNums a ++ strOfNums b = strOfNums (a ++ b) := by
  apply ByteArray.ext
  simp [strOfNums]
theorem strOf_size (a : List Int) : (strOfNums a).size = a.length := by simp [strOfNums, ByteArray.size]
/-- so many bytes of s from place i on, behind n -/
def fold (s : ByteArray) : Nat → Int → Int → Int
  | 0, _, n => n
  | d + 1, i, n => fold s d (i + 1) (n * 256 + bt s i)
def Below256 (i n : Int) : Prop := 0 ≤ n ∧ (i = 1 → n = 0) ∧ (i = 2 → n < 256) ∧ (i = 3 → n < 65536) ∧ (i = 4 → n < 16777216) ∧ (i = 5 → n < 4294967296)
theorem or256 {n b : Int} (h0 : 0 ≤ n) (h1 : n < 16777216) (b0 : 0 ≤ b) (b1 : b < 256) : Go.bits .or .i64 (wrap64 (n * 256)) (wrap64 b) = n * 256 + b := by
  rw [w64 _ (by omega) (by omega), w64 _ (by omega) (by omega)]
  exact bits_join .i64 40 (by decide +kernel) (fun m _ h => by have h' : m < 1099511627776 := h; exact IntWalk.i64_in m (by omega)) 8 _ _ (by omega) (by omega) (by omega) (by omega) (by omega) (by omega)
theorem below_next {s : ByteArray} {i n : Int} (hi : 1 ≤ i) (h4 : i ≤ 4) (hb : Below256 i n) : Below256 (i + 1) (n * 256 + bt s i) ∧ n < 16777216 := by
  have hr := bt_range s i
  unfold Below256 at hb ⊢
  obtain ⟨h0, h1, h2, h3, h5, h6⟩ := hb
  refine ⟨⟨by omega, fun h => by omega, fun h => ?_, fun h => ?_, fun h => ?_, fun h => ?_⟩, by omega⟩
  · have := h1 (by omega); omega
  · have := h2 (by omega); omega
  · have := h3 (by omega); omega
  · have := h5 (by omega); omega
theorem fold_below (s : ByteArray) : ∀ (d : Nat) (i n : Int), 1 ≤ i → i + d ≤ 5 → Below256 i n → Below256 (i + d) (fold s d i n)
  | 0, i, n, _, _, hb => by simpa [fold] using hb
  | d + 1, i, n, h1, h5, hb => by
    have := fold_below s d (i + 1) (n * 256 + bt s i) (by omega) (by omega) (below_next h1 (by omega) hb).1
    have e : i + ((d + 1 : Nat) : Int) = i + 1 + (d : Int) := by omega
    rw [e]; exact this
theorem loop_take (s : ByteArray) (q : Int) (hq : q ≤ 4) (hs : q < s.size) (hq1 : 1 ≤ q) : ∀ (d k : Nat) (i n : Int), i + d = q + 1 → 1 ≤ i → Below256 i n → d + 7 ≤ k →
    leb_Take.l0 k s q n i = (if mo (fold s d i n) = q then some (fold s d i n, 1 + q, 0) else some (0, 0, 3))
  | 0, k, i, n, hd, h1, hb, hk => by
    obtain ⟨k, rfl⟩ : ∃ m, k = m + 1 := ⟨k - 1, by omega⟩
    have hi : i = q + 1 := by omega
    simp only [leb_Take.l0]
    rw [if_neg (by omega)]
    unfold Below256 at hb
    rw [more_eq n hb.1 (by omega) k (by omega), w64 (1 + q) (by omega) (by omega)]
    rfl
  | d + 1, k, i, n, hd, h1, hb, hk => by
    obtain ⟨k, rfl⟩ : ∃ m, k = m + 1 := ⟨k - 1, by omega⟩
    have hbn := below_next (s := s) h1 (by omega) hb
    have hr := bt_range s i
    simp only [leb_Take.l0]
    rw [if_pos (by omega), if_pos (by omega), if_pos (by omega), or256 hb.1 hbn.2 hr.1 (by omega), w64 (i + 1) (by omega) (by omega)]
    exact loop_take s q hq hs hq1 d k (i + 1) _ (by omega) (by omega) hbn.1 (by omega)
/-- what bytes begin with -/
def tk (s : ByteArray) : Int × Int × Int :=
  if s.size = 0 then (0, 0, 4) else if bt s 0 < 248 then (bt s 0, 1, 0) else if bt s 0 > 251 then (0, 0, 3) else
  if (s.size : Int) ≤ bt s 0 - 247 then (0, 0, 4) else
  if mo (fold s (bt s 0 - 247).toNat 1 0) = bt s 0 - 247 then (fold s (bt s 0 - 247).toNat 1 0, 1 + (bt s 0 - 247), 0) else (0, 0, 3)
theorem nil_iff (s : ByteArray) : s.toList = [] ↔ s.size = 0 := by
  rw [ByteArray.toList_eq]
  have : s.size = s.data.toList.length := Array.length_toList.symm
  rw [this, List.length_eq_zero_iff]
theorem take_eq (s : ByteArray) (k : Nat) (hk : 12 ≤ k) : leb_Take.f k s = some (tk s) := by
  have hr := bt_range s 0
  unfold leb_Take.f tk
  by_cases c : s.size = 0
  · rw [if_pos ((nil_iff s).2 c), if_pos c]
  rw [if_neg (fun h => c ((nil_iff s).1 h)), if_neg c, if_pos (by omega), w64 (bt s 0) (by omega) (by omega), w64 (bt s 0 - 248) (by omega) (by omega), w64 _ (by omega) (by omega)]
  by_cases c1 : bt s 0 < 248
  · rw [if_pos (by omega), if_pos c1]
  rw [if_neg (by omega), if_neg c1]
  by_cases c2 : bt s 0 > 251
  · rw [if_pos (by omega), if_pos c2]
  rw [if_neg (by omega), if_neg c2]
  have e : bt s 0 - 248 + 1 = bt s 0 - 247 := by omega
  rw [e]
  by_cases c3 : (s.size : Int) ≤ bt s 0 - 247
  · rw [if_pos c3, if_pos c3]
  rw [if_neg c3, if_neg c3, loop_take s (bt s 0 - 247) (by omega) (by omega) (by omega) (bt s 0 - 247).toNat k 1 0 (by omega) (by omega) ⟨by omega, by omega, by omega, by omega, by omega, by omega⟩ (by omega)]
  split <;> rfl
theorem u8_inj {a b : Int} (a0 : 0 ≤ a) (a1 : a < 256) (b0 : 0 ≤ b) (b1 : b < 256) : UInt8.ofNat a.toNat = UInt8.ofNat b.toNat ↔ a = b := by
  constructor
  · intro h
    have h' := congrArg UInt8.toNat h
    simp only [UInt8.toNat_ofNat'] at h'
    omega
  · intro h; rw [h]
theorem getD_bt (s : ByteArray) (i : Nat) (h : i < s.size) : s.toList[i]? = some (UInt8.ofNat (bt s i).toNat) := by
  rw [ByteArray.toList_eq, Array.getElem?_toList, Array.getElem?_eq_getElem (by simpa using h)]
  unfold bt
  rw [dif_pos (by simpa using h)]
  congr 1
  simp [ByteArray.getElem_eq_getElem_data]
theorem extract_toList (s : ByteArray) (k : Nat) : (s.extract 0 k).toList = s.toList.take k := by
  rw [ByteArray.toList_eq, ByteArray.toList_eq, ByteArray.data_extract]
  simp
theorem map_inj : ∀ (l m : List Int), (∀ x ∈ l, 0 ≤ x ∧ x < 256) → (∀ x ∈ m, 0 ≤ x ∧ x < 256) → (l.map (fun n => UInt8.ofNat n.toNat) = m.map (fun n => UInt8.ofNat n.toNat) ↔ l = m)
  | [], [], _, _ => by simp
  | [], _ :: _, _, _ => by simp
  | _ :: _, [], _, _ => by simp
  | a :: l, b :: m, hl, hm => by
    have ha := hl a (by simp)
    have hb := hm b (by simp)
    simp only [List.map_cons, List.cons.injEq, u8_inj ha.1 ha.2 hb.1 hb.2, map_inj l m (fun x hx => hl x (by simp [hx])) (fun x hx => hm x (by simp [hx]))]
/-- the first bytes, as numbers -/
def head (s : ByteArray) : Nat → List Int
  | 0 => []
  | k + 1 => head s k ++ [bt s k]
theorem head_bytes (s : ByteArray) : ∀ k, ∀ x ∈ head s k, 0 ≤ x ∧ x < 256
  | 0, x, h => by simp [head] at h
  | k + 1, x, h => by
    simp only [head, List.mem_append, List.mem_singleton] at h
    rcases h with h | h
    · exact head_bytes s k x h
    · have := bt_range s k; omega
theorem take_head (s : ByteArray) : ∀ k, k ≤ s.size → s.toList.take k = (head s k).map fun n => UInt8.ofNat n.toNat
  | 0, _ => by simp [head]
  | k + 1, h => by
    rw [List.take_add_one, take_head s k (by omega), getD_bt s k (by omega)]
    simp [head]
/-- as many bytes as the number has: just if they are the number's -/
theorem mo_put (s : ByteArray) (q : Nat) (h1 : 1 ≤ q) (h4 : q ≤ 4) (h0 : bt s 0 = 247 + q) : mo (fold s q 1 0) = q ↔ putL (fold s q 1 0) = head s (1 + q) := by
  have r1 := bt_range s 1
  have r2 := bt_range s 2
  have r3 := bt_range s 3
  have r4 := bt_range s 4
  have h0' : bt s ((0 : Nat) : Int) = 247 + q := h0
  obtain rfl | rfl | rfl | rfl : q = 1 ∨ q = 2 ∨ q = 3 ∨ q = 4 := by omega
  all_goals simp only [fold, head, List.nil_append, List.cons_append, h0']
  all_goals simp only [Int.reduceAdd, Int.natCast_one, Int.zero_add, Int.zero_mul]
  · generalize bt s 1 = b1 at *
    unfold mo putL
    repeat' split
    all_goals simp
    all_goals omega
  · generalize bt s 1 = b1 at *
    generalize bt s 2 = b2 at *
    unfold mo putL
    repeat' split
    all_goals simp
    all_goals omega
  · generalize bt s 1 = b1 at *
    generalize bt s 2 = b2 at *
    generalize bt s 3 = b3 at *
    unfold mo putL
    repeat' split
    all_goals simp
    all_goals omega
  · generalize bt s 1 = b1 at *
    generalize bt s 2 = b2 at *
    generalize bt s 3 = b3 at *
    generalize bt s 4 = b4 at *
    unfold mo putL
    repeat' split
    all_goals simp
    all_goals omega
def dig (n : Int) : List Int := if n < 256 then [n] else if n < 65536 then [n / 256, n % 256] else if n < 16777216 then [n / 65536, n / 256 % 256, n % 256] else [n / 16777216, n / 65536 % 256, n / 256 % 256, n % 256]
theorem digits_eq : ∀ (j k : Nat) (n : Int), 0 ≤ n → n < 256 ^ j → 1 ≤ j → j ≤ 4 → j + 1 ≤ k → easementref02_digits.f k n = some (strOfNums (dig n))
  | 0, _, _, _, _, h, _, _ => by omega
  | j + 1, k, n, h0, h1, _, h4, hk => by
    obtain ⟨k, rfl⟩ : ∃ m, k = m + 1 := ⟨k - 1, by omega⟩
    simp only [easementref02_digits.f]
    by_cases c : n < 256
    · rw [if_pos c, show n % 256 = n by omega]
      unfold dig
      rw [if_pos c]
    rw [if_neg c]
    have hj : 1 ≤ j := by
      rcases j with _ | j
      · simp at h1; omega
      · omega
    have hlt : n / 256 < 256 ^ j := by rw [Int.pow_succ] at h1; omega
    have hn : n < 4294967296 := by
      obtain rfl | rfl | rfl : j = 1 ∨ j = 2 ∨ j = 3 := by omega
      all_goals simp at h1
      all_goals omega
    have ht : Int.tdiv n 256 = n / 256 := Int.tdiv_eq_ediv_of_nonneg h0
    have hm : Int.tmod n 256 = n % 256 := Int.tmod_eq_emod_of_nonneg h0
    rw [ht, hm, w64 (n / 256) (by omega) (by omega), digits_eq j k (n / 256) (by omega) hlt hj (by omega) (by omega)]
    simp only [Option.bind_some, strOf_size, strOf_append]
    have hl : (dig (n / 256)).length ≤ 4 := by
      unfold dig
      repeat' split
      all_goals simp
    rw [if_pos (by simp only [List.length_cons, List.length_nil]; omega)]
    congr 2
    unfold dig
    by_cases c1 : n < 65536
    · rw [if_pos (show n / 256 < 256 by omega), if_neg c, if_pos c1]
      simp
    rw [if_neg (show ¬ n / 256 < 256 by omega), if_neg c, if_neg c1]
    by_cases c2 : n < 16777216
    · rw [if_pos (show n / 256 < 65536 by omega), if_pos c2]
      simp
      omega
    rw [if_neg (show ¬ n / 256 < 65536 by omega), if_pos (show n / 256 < 16777216 by omega), if_neg c2]
    simp
    omega
theorem refput_eq (n : Int) (k : Nat) (hk : 8 ≤ k) : easementref02_Put.f k n = some (strOfNums (putL n)) := by
  obtain ⟨k, rfl⟩ : ∃ m, k = m + 1 := ⟨k - 1, by omega⟩
  unfold easementref02_Put.f
  by_cases c0 : n < 0
  · rw [if_pos c0, putL_none (.inl c0)]
    simp only [easementref02_Put.j0]
    rw [if_pos trivial, strOf_nil]
  rw [if_neg c0]
  simp only [easementref02_Put.j0]
  by_cases c1 : n > 4294967295
  · rw [if_pos (decide_eq_true c1), putL_none (.inr c1), strOf_nil]
  rw [if_neg (by simpa using c1)]
  by_cases c : n < 248
  · rw [if_pos c, show n % 256 = n by omega]
    unfold putL
    rw [if_neg c0, if_neg c1, if_pos c]
  rw [if_neg c, digits_eq 4 k n (by omega) (by simp; omega) (by omega) (by omega) (by omega)]
  simp only [Option.bind_some, strOf_size, strOf_append]
  unfold putL dig
  rw [if_neg c0, if_neg c1, if_neg c]
  have e1 : wrap64 (247 + ((1 : Nat) : Int)) % 256 = 248 := by decide +kernel
  have e2 : wrap64 (247 + ((2 : Nat) : Int)) % 256 = 249 := by decide +kernel
  have e3 : wrap64 (247 + ((3 : Nat) : Int)) % 256 = 250 := by decide +kernel
  have e4 : wrap64 (247 + ((4 : Nat) : Int)) % 256 = 251 := by decide +kernel
  by_cases d1 : n < 256
  · rw [if_pos d1, if_pos d1]
    simp only [List.length_cons, List.length_nil, Nat.zero_add, Nat.reduceAdd, e1]
    rw [if_pos (by decide)]; rfl
  rw [if_neg d1, if_neg d1]
  by_cases d2 : n < 65536
  · rw [if_pos d2, if_pos d2]
    simp only [List.length_cons, List.length_nil, Nat.zero_add, Nat.reduceAdd, e2]
    rw [if_pos (by decide)]; rfl
  rw [if_neg d2, if_neg d2]
  by_cases d3 : n < 16777216
  · rw [if_pos d3, if_pos d3]
    simp only [List.length_cons, List.length_nil, Nat.zero_add, Nat.reduceAdd, e3]
    rw [if_pos (by decide)]; rfl
  rw [if_neg d3, if_neg d3]
  simp only [List.length_cons, List.length_nil, Nat.zero_add, Nat.reduceAdd, e4]
  rw [if_pos (by decide)]; rfl
theorem loop_ref (s : ByteArray) (q : Int) (hq : q ≤ 4) (hs : q < s.size) (hq1 : 1 ≤ q) (h0 : bt s 0 = 247 + q) : ∀ (d k : Nat) (i n : Int), i + d = q + 1 → 1 ≤ i → Below256 i n → d + 9 ≤ k → fold s d i n = fold s q.toNat 1 0 →
    easementref02_Take.l0 k s q n i = (if mo (fold s d i n) = q then some (fold s d i n, 1 + q, 0) else some (0, 0, 3))
  | 0, k, i, n, hd, h1, hb, hk, hf => by
    obtain ⟨k, rfl⟩ : ∃ m, k = m + 1 := ⟨k - 1, by omega⟩
    have hi : i = q + 1 := by omega
    simp only [easementref02_Take.l0]
    rw [if_neg (by omega), refput_eq n k (by omega), w64 (1 + q) (by omega) (by omega)]
    simp only [Option.bind_some]
    rw [if_pos (by omega), if_pos (by omega), extract_toList, strOf_toList, take_head s _ (by omega)]
    have e : n = fold s q.toNat 1 0 := hf
    have key := mo_put s q.toNat (by omega) (by omega) (by omega)
    have eq1 : (1 + q).toNat = 1 + q.toNat := by omega
    rw [eq1, show fold s 0 i n = n from rfl, e]
    have hc : ((q.toNat : Nat) : Int) = q := by omega
    rw [hc] at key
    by_cases c : mo (fold s q.toNat 1 0) = q
    · rw [if_pos c, if_pos ((map_inj _ _ (putL_bytes _) (head_bytes _ _)).2 (key.1 c))]
    · rw [if_neg c, if_neg (fun h => c (key.2 ((map_inj _ _ (putL_bytes _) (head_bytes _ _)).1 h)))]
  | d + 1, k, i, n, hd, h1, hb, hk, hf => by
    obtain ⟨k, rfl⟩ : ∃ m, k = m + 1 := ⟨k - 1, by omega⟩
    have hbn := below_next (s := s) h1 (by omega) hb
    have hr := bt_range s i
    have hn0 := hb.1
    simp only [easementref02_Take.l0]
    rw [if_pos (by omega), if_pos (by omega), if_pos (by omega), w64 (n * 256) (by omega) (by omega), w64 (bt s i) (by omega) (by omega), w64 (n * 256 + bt s i) (by omega) (by omega), w64 (i + 1) (by omega) (by omega)]
    exact loop_ref s q hq hs hq1 h0 d k (i + 1) _ (by omega) (by omega) hbn.1 (by omega) hf
theorem ref_eq (s : ByteArray) (k : Nat) (hk : 14 ≤ k) : easementref02_Take.f k s = some (tk s) := by
  have hr := bt_range s 0
  unfold easementref02_Take.f tk
  by_cases c : s.size = 0
  · rw [if_pos ((nil_iff s).2 c), if_pos c]
  rw [if_neg (fun h => c ((nil_iff s).1 h)), if_neg c, if_pos (by omega), w64 (bt s 0) (by omega) (by omega), w64 (bt s 0 - 247) (by omega) (by omega), w64 _ (by omega) (by omega)]
  by_cases c1 : bt s 0 < 248
  · rw [if_pos (by omega), if_pos c1]
  rw [if_neg (by omega), if_neg c1]
  by_cases c2 : bt s 0 > 251
  · rw [if_pos (by omega), if_pos c2]
  rw [if_neg (by omega), if_neg c2]
  by_cases c3 : (s.size : Int) ≤ bt s 0 - 247
  · rw [if_pos (by omega), if_pos c3]
  rw [if_neg (by omega), if_neg c3, loop_ref s (bt s 0 - 247) (by omega) (by omega) (by omega) (by omega) (bt s 0 - 247).toNat k 1 0 (by omega) (by omega) ⟨by omega, by omega, by omega, by omega, by omega, by omega⟩ (by omega) rfl]
  split <;> rfl
/-! statements as bytes: what the program and the reference both tell -/
def kD (n : Int) : Bool := n == 1 || n == 2 || n == 3 || n == 5
def kS (n : Int) : Bool := decide (1 ≤ n) && decide (n ≤ 4)
def kR (n : Int) : Bool := n == 2 || n == 3
theorem kinds (n : Int) : (n = 0 ∨ n = 1 ∨ n = 2 ∨ n = 3 ∨ n = 4 ∨ n = 5) ∨ (n ≠ 0 ∧ n ≠ 1 ∧ n ≠ 2 ∧ n ≠ 3 ∧ n ≠ 4 ∧ n ≠ 5) := by omega
theorem of_eq (n : Int) (k : Nat) : stmt_of.f (k + 1) n = some (kD n && decide (0 ≤ n ∧ n ≤ 5), kS n && decide (0 ≤ n ∧ n ≤ 5), kR n && decide (0 ≤ n ∧ n ≤ 5), decide (0 ≤ n ∧ n ≤ 5)) := by
  unfold stmt_of.f
  rcases kinds n with (rfl | rfl | rfl | rfl | rfl | rfl) | ⟨h0, h1, h2, h3, h4, h5⟩
  all_goals simp [stmt_of.j0, kD, kS, kR, *]
  omega
/-- What a number at the begin is: its range. -/
theorem tk_range (s : ByteArray) : 0 ≤ (tk s).1 ∧ (tk s).1 ≤ 4294967295 ∧ 0 ≤ (tk s).2.1 ∧ (tk s).2.1 ≤ s.size ∧ (tk s).2.1 ≤ 5 := by
  have hr := bt_range s 0
  unfold tk
  split
  · simp
  split
  · rename_i c c1; simp only; omega
  split
  · simp
  split
  · simp
  split
  · rename_i c c1 c2 c3 c4
    have hb := fold_below s (bt s 0 - 247).toNat 1 0 (by omega) (by omega) ⟨by omega, by omega, by omega, by omega, by omega, by omega⟩
    unfold Below256 at hb
    obtain ⟨b0, b1, b2, b3, b4, b5⟩ := hb
    simp only
    refine ⟨b0, ?_, by omega, by omega, by omega⟩
    have : bt s 0 - 247 = 1 ∨ bt s 0 - 247 = 2 ∨ bt s 0 - 247 = 3 ∨ bt s 0 - 247 = 4 := by omega
    rcases this with h | h | h | h
    · have := b2 (by omega); omega
    · have := b3 (by omega); omega
    · have := b4 (by omega); omega
    · have := b5 (by omega); omega
  · simp
abbrev R7 := Int × Int × Int × Int × Bool × Int × Int
/-- One field. -/
def fs (s : ByteArray) (d : Bool) (a : Int) (c : Int → Int → R7) : R7 :=
  if d = true then (if (tk (s.extract a.toNat s.size)).2.2 = 0 then c (tk (s.extract a.toNat s.size)).1 (a + (tk (s.extract a.toNat s.size)).2.1) else (0, 0, 0, 0, false, 0, (tk (s.extract a.toNat s.size)).2.2)) else c 0 a
/-- The statement with which bytes begin. -/
def tkS (s : ByteArray) : R7 :=
  if (tk s).2.2 = 0 then (if (tk s).1 ≤ 5 then fs s (kD (tk s).1) (tk s).2.1 fun d a => fs s (kS (tk s).1) a fun q a => fs s (kR (tk s).1) a fun r a => ((tk s).1, d, q, r / 2, r % 2 == 1, a, 0) else (0, 0, 0, 0, false, 0, 3)) else (0, 0, 0, 0, false, 0, (tk s).2.2)
theorem ext_size (s : ByteArray) (a : Int) (h0 : 0 ≤ a) (h1 : a ≤ s.size) : ((s.extract a.toNat s.size).size : Int) = s.size - a := by
  rw [ByteArray.size_extract]; omega
theorem g_eq (s : ByteArray) (hs : s.size ≤ 1000000) (k : Nat) (hk : 12 ≤ k) (d : Bool) (a : Int) (h0 : 0 ≤ a) (h1 : a ≤ s.size) (c : Int → Int → Option R7) (c' : Int → Int → R7)
    (hc : ∀ n b : Int, 0 ≤ n → n ≤ 4294967295 → 0 ≤ b → b ≤ s.size → c n b = some (c' n b)) : stmt_Take.g k s d a c = some (fs s d a c') := by
  unfold stmt_Take.g fs
  cases d with
  | false => simp only [Bool.false_eq_true, if_false]; exact hc 0 a (by omega) (by omega) h0 h1
  | true =>
    have hr := tk_range (s.extract a.toNat s.size)
    have hz := ext_size s a h0 h1
    rw [if_pos rfl, if_pos rfl, if_pos h0, if_pos h1, take_eq _ k hk]
    simp only [Option.bind_some]
    by_cases c1 : (tk (s.extract a.toNat s.size)).2.2 = 0
    · rw [if_pos c1, if_pos c1, w64 _ (by omega) (by omega)]
      exact hc _ _ (by omega) (by omega) (by omega) (by omega)
    · rw [if_neg c1, if_neg c1]
theorem stake_eq (s : ByteArray) (hs : s.size ≤ 1000000) (k : Nat) (hk : 12 ≤ k) : stmt_Take.f k s = some (tkS s) := by
  have hr := tk_range s
  unfold stmt_Take.f tkS
  rw [take_eq s k hk]
  simp only [Option.bind_some]
  by_cases c1 : (tk s).2.2 = 0
  · rw [if_pos c1, if_pos c1]
    obtain ⟨m, rfl⟩ : ∃ m, k = m + 1 := ⟨k - 1, by omega⟩
    rw [of_eq]
    simp only [Option.bind_some]
    by_cases c2 : (tk s).1 ≤ 5
    · have e : decide (0 ≤ (tk s).1 ∧ (tk s).1 ≤ 5) = true := decide_eq_true ⟨hr.1, c2⟩
      rw [e, if_pos rfl, if_pos c2]
      simp only [Bool.and_true, stmt_Take.st]
      refine g_eq s hs _ hk _ _ (by omega) (by omega) _ _ fun d a _ _ ha0 ha1 => ?_
      refine g_eq s hs _ hk _ _ ha0 ha1 _ _ fun q b _ _ hb0 hb1 => ?_
      refine g_eq s hs _ hk _ _ hb0 hb1 _ _ fun r e h0 h1 _ _ => ?_
      unfold stmt_Take.fin
      rw [Int.tdiv_eq_ediv_of_nonneg h0, Int.tmod_eq_emod_of_nonneg h0, w64 _ (by omega) (by omega)]
    · have e : decide (0 ≤ (tk s).1 ∧ (tk s).1 ≤ 5) = false := decide_eq_false (fun h => c2 h.2)
      rw [e, if_neg (by simp), if_neg c2]
  · rw [if_neg c1, if_neg c1]
theorem dst_eq (n : Int) : easementref18_Dst.f n = some (kD n) := by
  unfold easementref18_Dst.f kD
  rcases kinds n with (rfl | rfl | rfl | rfl | rfl | rfl) | ⟨h0, h1, h2, h3, h4, h5⟩ <;> simp [*]
theorem src_eq (n : Int) : easementref18_Src.f n = some (kS n) := by
  unfold easementref18_Src.f kS
  by_cases h : 1 ≤ n
  · rw [if_pos h]; simp [h]
  · rw [if_neg h]; simp [h]
theorem reg_eq (n : Int) : easementref18_Region.f n = some (kR n) := by
  unfold easementref18_Region.f kR
  by_cases h : n = 2 <;> simp [h]
theorem sref_eq (s : ByteArray) (hs : s.size ≤ 1000000) (k : Nat) (hk : 20 ≤ k) : easementref18_Take.f k s = some (tkS s) := by
  have hr := tk_range s
  unfold easementref18_Take.f tkS
  rw [ref_eq s k (by omega)]
  simp only [Option.bind_some]
  obtain ⟨m, rfl⟩ : ∃ m, k = m + 2 := ⟨k - 2, by omega⟩
  by_cases c1 : (tk s).2.2 = 0
  · rw [if_pos c1, if_pos c1]
    by_cases c2 : (tk s).1 ≤ 5
    · rw [if_neg (by omega), if_pos c2, dst_eq]
      simp only [Option.bind_some]
      have key : ∀ (d a : Int), 0 ≤ a → a ≤ s.size → easementref18_Take.j0 (m + 2) s (tk s).1 a (tk s).1 d 0 0 false = some (fs s (kS (tk s).1) a fun q a => fs s (kR (tk s).1) a fun r a => ((tk s).1, d, q, r / 2, r % 2 == 1, a, 0)) := by
        intro d a h0 h1
        have key2 : ∀ (q b : Int), 0 ≤ b → b ≤ s.size → easementref18_Take.j1 (m + 1) s (tk s).1 b (tk s).1 d q 0 false = some (fs s (kR (tk s).1) b fun r a => ((tk s).1, d, q, r / 2, r % 2 == 1, a, 0)) := by
          intro q b h0 h1
          simp only [easementref18_Take.j1, reg_eq, Option.bind_some]
          unfold fs
          by_cases c3 : kR (tk s).1 = true
          · have hr2 := tk_range (s.extract b.toNat s.size)
            have hz := ext_size s b h0 h1
            rw [if_pos c3, if_pos c3, if_pos h0, if_pos h1, ref_eq _ m (by omega)]
            simp only [Option.bind_some]
            by_cases c4 : (tk (s.extract b.toNat s.size)).2.2 = 0
            · rw [if_pos c4, if_pos c4, Int.tdiv_eq_ediv_of_nonneg hr2.1, Int.tmod_eq_emod_of_nonneg hr2.1, w64 _ (by omega) (by omega), w64 _ (by omega) (by omega)]
            · rw [if_neg c4, if_neg c4]
          · rw [if_neg c3, if_neg c3]; rfl
        simp only [easementref18_Take.j0, src_eq, Option.bind_some]
        conv => rhs; unfold fs
        by_cases c3 : kS (tk s).1 = true
        · have hr2 := tk_range (s.extract a.toNat s.size)
          have hz := ext_size s a h0 h1
          rw [if_pos c3, if_pos c3, if_pos h0, if_pos h1, ref_eq _ (m + 1) (by omega)]
          simp only [Option.bind_some]
          by_cases c4 : (tk (s.extract a.toNat s.size)).2.2 = 0
          · rw [if_pos c4, if_pos c4, w64 _ (by omega) (by omega)]
            exact key2 _ _ (by omega) (by omega)
          · rw [if_neg c4, if_neg c4]
        · rw [if_neg c3, if_neg c3]
          exact key2 0 a h0 h1
      conv => rhs; unfold fs
      by_cases c3 : kD (tk s).1 = true
      · have hr2 := tk_range (s.extract (tk s).2.1.toNat s.size)
        have hz := ext_size s (tk s).2.1 (by omega) (by omega)
        rw [if_pos c3, if_pos c3, if_pos (by omega), if_pos (by omega), ref_eq _ (m + 2) (by omega)]
        simp only [Option.bind_some]
        by_cases c4 : (tk (s.extract (tk s).2.1.toNat s.size)).2.2 = 0
        · rw [if_pos c4, if_pos c4, w64 _ (by omega) (by omega)]
          exact key _ _ (by omega) (by omega)
        · rw [if_neg c4, if_neg c4]
      · rw [if_neg c3, if_neg c3]
        exact key 0 _ (by omega) (by omega)
    · rw [if_pos (by omega), if_neg c2]
  · rw [if_neg c1, if_neg c1]
/-- May a statement be: the fields of its kind alone? -/
def fm (n d q r : Int) (m : Bool) : Bool := decide (0 ≤ n ∧ n ≤ 5) && (kD n || d == 0) && (kS n || q == 0) && (kR n || (r == 0 && !m))
theorem beq0 (x : Int) : ((0 : Int) == x) = (x == 0) := by rw [Bool.eq_iff_iff, beq_iff_eq, beq_iff_eq]; exact ⟨Eq.symm, Eq.symm⟩
theorem form_eq (n d q r : Int) (m : Bool) (k : Nat) : ∃ u1 u2 u3, stmt_form.f (k + 2) n d q r m = some (u1, u2, u3, fm n d q r m) ∧ (fm n d q r m = true → u1 = kD n ∧ u2 = kS n ∧ u3 = kR n) := by
  unfold stmt_form.f
  rw [of_eq]
  rcases kinds n with (rfl | rfl | rfl | rfl | rfl | rfl) | ⟨h0, h1, h2, h3, h4, h5⟩
  · refine ⟨false, false, false, ?_, fun _ => by decide +kernel⟩
    simp [stmt_form.j0, kD, kS, kR, fm]
    cases m <;> simp [Bool.and_assoc, beq0]
  · refine ⟨true, true, false, ?_, fun _ => by decide +kernel⟩
    simp [stmt_form.j0, kD, kS, kR, fm]
    cases m <;> simp [Bool.and_assoc, beq0]
  · refine ⟨true, true, true, ?_, fun _ => by decide +kernel⟩
    simp [stmt_form.j0, kD, kS, kR, fm]
  · refine ⟨true, true, true, ?_, fun _ => by decide +kernel⟩
    simp [stmt_form.j0, kD, kS, kR, fm]
  · refine ⟨false, true, false, ?_, fun _ => by decide +kernel⟩
    simp [stmt_form.j0, kD, kS, kR, fm]
    cases m <;> simp [Bool.and_assoc, beq0]
  · refine ⟨true, false, false, ?_, fun _ => by decide +kernel⟩
    simp [stmt_form.j0, kD, kS, kR, fm]
    cases m <;> simp [Bool.and_assoc, beq0]
  · have hn : ¬ (0 ≤ n ∧ n ≤ 5) := by omega
    have e : fm n d q r m = false := by simp [fm, hn]
    rw [e]
    refine ⟨false, false, false, ?_, fun h => by simp at h⟩
    simp [stmt_form.j0, kD, kS, kR, hn, h1, h2, h3, h5]
/-- A statement's bytes, as numbers. -/
def putS (n d q r : Int) (m : Bool) : List Int := putL n ++ (if kD n = true then putL d else []) ++ (if kS n = true then putL q else []) ++ (if kR n = true then putL (if m = true then 2 * r + 1 else 2 * r) else [])
theorem putL_len (n : Int) : (putL n).length ≤ 5 := by
  unfold putL
  repeat' split
  all_goals simp
theorem sput_eq (n d q r : Int) (m : Bool) (hr0 : 0 ≤ r) (hr1 : r < 2147483648) (k : Nat) (hk : 12 ≤ k) :
    stmt_Put.f k n d q r m = some (if fm n d q r m = true then (strOfNums (putS n d q r m), 0) else (⟨#[]⟩, 3)) := by
  obtain ⟨k, rfl⟩ : ∃ j, k = j + 2 := ⟨k - 2, by omega⟩
  obtain ⟨u1, u2, u3, hf, hu⟩ := form_eq n d q r m k
  unfold stmt_Put.f
  rw [hf]
  simp only [Option.bind_some]
  cases hfm : fm n d q r m with
  | false => simp
  | true =>
    obtain ⟨rfl, rfl, rfl⟩ := hu hfm
    have hn := putL_len n
    have hd := putL_len d
    have hq := putL_len q
    have hx : wrap64 (wrap64 (2 * r) + 1) = 2 * r + 1 := by rw [w64 (2 * r) (by omega) (by omega), w64 _ (by omega) (by omega)]
    have hy : wrap64 (2 * r) = 2 * r := w64 _ (by omega) (by omega)
    have hz : wrap64 (2 * r + 1) = 2 * r + 1 := w64 _ (by omega) (by omega)
    have l1 := putL_len (2 * r + 1)
    have l0 := putL_len (2 * r)
    have P := fun x => put_eq x (k + 2) (by omega)
    have P1 := fun x => put_eq x (k + 1) (by omega)
    have P0 := fun x => put_eq x k (by omega)
    unfold putS
    simp only [P, P1, P0, Option.bind_some, strOf_append, strOf_size, stmt_Put.j0, stmt_Put.j1, hx, hy, hz]
    cases kD n <;> cases kS n <;> cases kR n <;> cases m <;> simp [strOf_append, strOf_size, Nat.le_trans, List.append_assoc] <;> omega
theorem sawake_eq (k : Nat) (hk : 20 ≤ k) : easementlaw18_awake.f k = some true := by
  unfold easementlaw18_awake.f
  rw [sput_eq _ _ _ _ _ (by omega) (by omega) k (by omega), sput_eq _ _ _ _ _ (by omega) (by omega) k (by omega)]
  have e1 : fm 2 1 2 3 true = true := by decide +kernel
  have e2 : fm 4 1 0 0 false = false := by decide +kernel
  rw [e1, e2]
  simp only [Option.bind_some, if_true, strOf_toList]
  decide +kernel
theorem rform_eq (n d q r : Int) (m : Bool) : easementref18_Form.f n d q r m = some (fm n d q r m) := by
  unfold easementref18_Form.f
  simp only [dst_eq, src_eq, reg_eq, Option.bind_some]
  by_cases h0 : 0 ≤ n
  · by_cases h5 : n ≤ 5
    · rw [if_pos h0, if_pos h5]
      have e : decide (0 ≤ n ∧ n ≤ 5) = true := decide_eq_true ⟨h0, h5⟩
      unfold fm
      rw [e]
      cases kD n <;> cases kS n <;> cases kR n <;> cases m <;> by_cases hd : d = 0 <;> by_cases hq : q = 0 <;> by_cases hr : r = 0 <;> simp [hd, hq, hr]
    · rw [if_pos h0, if_neg h5]
      simp [fm, h5]
  · rw [if_neg h0]
    simp [fm, h0]
theorem rput_eq (n d q r : Int) (m : Bool) (hr0 : 0 ≤ r) (hr1 : r < 2147483648) (k : Nat) (hk : 16 ≤ k) :
    easementref18_Put.f k n d q r m = some (if fm n d q r m = true then (strOfNums (putS n d q r m), 0) else (⟨#[]⟩, 3)) := by
  obtain ⟨k, rfl⟩ : ∃ j, k = j + 4 := ⟨k - 4, by omega⟩
  unfold easementref18_Put.f
  rw [rform_eq]
  simp only [Option.bind_some]
  cases hfm : fm n d q r m with
  | false => simp
  | true =>
    have hn := putL_len n
    have hd := putL_len d
    have hq := putL_len q
    have hx : wrap64 (wrap64 (2 * r) + 1) = 2 * r + 1 := by rw [w64 (2 * r) (by omega) (by omega), w64 _ (by omega) (by omega)]
    have hy : wrap64 (2 * r) = 2 * r := w64 _ (by omega) (by omega)
    have hz : wrap64 (2 * r + 1) = 2 * r + 1 := w64 _ (by omega) (by omega)
    have l1 := putL_len (2 * r + 1)
    have l0 := putL_len (2 * r)
    have P4 := fun x => refput_eq x (k + 4) (by omega)
    have P3 := fun x => refput_eq x (k + 3) (by omega)
    have P2 := fun x => refput_eq x (k + 2) (by omega)
    have P1 := fun x => refput_eq x (k + 1) (by omega)
    have P0 := fun x => refput_eq x k (by omega)
    unfold putS
    simp only [P4, P3, P2, P1, P0, dst_eq, src_eq, reg_eq, Option.bind_some, strOf_append, strOf_size, easementref18_Put.j0, easementref18_Put.j1, easementref18_Put.j2, easementref18_Put.j3, hx, hy, hz]
    cases kD n <;> cases kS n <;> cases kR n <;> cases m <;> simp [strOf_append, strOf_size, List.append_assoc] <;> omega
theorem StmtTakes : easementlaw18_StmtTakes.Pure := by
  intro s n d q r m _ _
  refine ⟨60, ?_⟩
  unfold easementlaw18_StmtTakes.f
  rw [sawake_eq 60 (by omega)]
  by_cases c : (s.size : Int) > 300
  · rw [if_pos c]; rfl
  rw [if_neg c, stake_eq s (by omega) 60 (by omega), sref_eq s (by omega) 60 (by omega)]
  simp only [Option.bind_some]
  have e1 : (!((tkS s).1 == (tkS s).1) || (!((tkS s).2.1 == (tkS s).2.1) || (!((tkS s).2.2.1 == (tkS s).2.2.1) || (!((tkS s).2.2.2.1 == (tkS s).2.2.2.1) || (!((tkS s).2.2.2.2.1 == (tkS s).2.2.2.2.1)))))) = false := by simp
  rw [e1, if_neg (by simp), if_pos trivial]
  have e2 : ((tkS s).2.2.2.2.2.2 != (tkS s).2.2.2.2.2.2) = false := by simp
  rw [e2]
  simp only [easementlaw18_StmtTakes.j0]
  rw [if_neg (by simp)]
  have aw : easementlaw18_StmtTakes.j1 59 true n d q r m = some true := by
    simp only [easementlaw18_StmtTakes.j1, if_true]
    rw [sawake_eq 58 (by omega)]; rfl
  by_cases h1 : d < 0
  · rw [if_pos h1]; exact aw
  rw [if_neg h1]
  by_cases h2 : q < 0
  · rw [if_pos h2]; exact aw
  rw [if_neg h2]
  by_cases h3 : r < 0
  · rw [if_pos h3]; exact aw
  rw [if_neg h3]
  by_cases h4 : d ≥ 2147483648
  · rw [if_pos h4]; exact aw
  rw [if_neg h4]
  by_cases h5 : q ≥ 2147483648
  · rw [if_pos h5]; exact aw
  rw [if_neg h5]
  by_cases h6 : r ≥ 2147483648
  · rw [decide_eq_true h6]; exact aw
  rw [decide_eq_false h6]
  simp only [easementlaw18_StmtTakes.j1]
  rw [if_neg (by simp), sput_eq n d q r m (by omega) (by omega) 58 (by omega), rput_eq n d q r m (by omega) (by omega) 58 (by omega)]
  simp only [Option.bind_some]
  rw [if_pos trivial, if_pos trivial, sawake_eq 58 (by omega)]
  rfl

end Go.Proofs.Ythhebinonpoddaa.Pure
