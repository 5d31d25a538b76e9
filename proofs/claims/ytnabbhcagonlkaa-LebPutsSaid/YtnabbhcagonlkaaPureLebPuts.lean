/- Pure part of LebPuts: the bytes of any number, how many they are, and those of several numbers are the same in the program and in the reference -/
import Derived.Test.YtnabbhcagonlkaaPLebPutsx2
import Derived.Laws.BitsLemmas
import Derived.Test.YtnabbhcagonlkaaWSized
namespace Go.Proofs.Ytnabbhcagonlkaa
set_option linter.defProp false in
/-- the name by which the printed row seeks the law of sizes -/
def PrintWords.sized_ints := @Go.Proofs.YtnabbhcagonlkaaW.PrintWords.sized_ints
end Go.Proofs.Ytnabbhcagonlkaa
namespace Go.Proofs.Ytnabbhcagonlkaa.Pure
open Go.RowKit Go.Proofs.Ytnabbhcagonlkaa.PLebPuts Go.Proofs.YtnabbhcagonlkaaW.PrintWords Go.Proofs.YtnabbhcagonlkaaW.PrintLast

/-! plain facts on numbers as bytes -/
theorem w64 (n : Int) (h0 : -9223372036854775808 ≤ n) (h1 : n < 9223372036854775808) : wrap64 n = n := by unfold wrap64; omega
/-- how many bytes follow -/
def mo (n : Int) : Int := if n < 248 then 0 else if n < 256 then 1 else if n < 65536 then 2 else if n < 16777216 then 3 else 4
theorem more_eq (n : Int) (h0 : 0 ≤ n) (h1 : n ≤ 4294967295) (k : Nat) (hk : 6 ≤ k) : leb_more.f k n = some (mo n) := by
  obtain ⟨m, rfl⟩ : ∃ m, k = m + 6 := ⟨k - 6, by omega⟩
  unfold leb_more.f mo
  have e1 : wrap64 (0 + 1) = 1 := by decide +kernel
  have e2 : wrap64 (1 + 1) = 2 := by decide +kernel
  have e3 : wrap64 (2 + 1) = 3 := by decide +kernel
  have e4 : wrap64 (3 + 1) = 4 := by decide +kernel
  simp only [leb_more.l0, e1, e2, e3, e4]
  by_cases c : n < 248
  · rw [if_neg (by omega), if_pos c]
  rw [if_pos (by omega), if_pos (by omega), if_neg c]
  by_cases c : n < 256
  · rw [if_pos (by omega), if_neg (by omega), if_pos c]
  rw [if_pos (by omega), if_pos (by omega), if_neg c]
  by_cases c : n < 65536
  · rw [if_pos (by omega), if_neg (by omega), if_pos c]
  rw [if_pos (by omega), if_pos (by omega), if_neg c]
  by_cases c : n < 16777216
  · rw [if_pos (by omega), if_neg (by omega), if_pos c]
  rw [if_pos (by omega), if_pos (by omega), if_neg c]
  rw [if_pos (by omega), if_neg (by omega)]
/-- a number's bytes -/
def putL (n : Int) : List Int := if n < 0 then [] else if n > 4294967295 then [] else if n < 248 then [n] else if n < 256 then [248, n] else if n < 65536 then [249, n / 256, n % 256] else if n < 16777216 then [250, n / 65536, n / 256 % 256, n % 256] else [251, n / 16777216, n / 65536 % 256, n / 256 % 256, n % 256]
theorem putL_none {n : Int} (h : n < 0 ∨ n > 4294967295) : putL n = [] := by
  unfold putL
  rcases h with h | h
  · rw [if_pos h]
  · rw [if_neg (by omega), if_pos h]
theorem strOf_nil : strOfNums [] = (⟨#[]⟩ : ByteArray) := rfl
theorem put_eq (n : Int) (k : Nat) (hk : 6 ≤ k) : leb_Put.f k n = some (strOfNums (putL n)) := by
  unfold leb_Put.f leb_Size.f
  by_cases c0 : n < 0
  · rw [if_pos c0, putL_none (.inl c0)]
    simp only [Option.bind_some]
    rw [if_pos (by decide +kernel), strOf_nil]
  rw [if_neg c0]
  by_cases c1 : n > 4294967295
  · rw [if_pos c1, putL_none (.inr c1)]
    simp only [Option.bind_some]
    rw [if_pos (by decide +kernel), strOf_nil]
  rw [if_neg c1, more_eq n (by omega) (by omega) k hk]
  simp only [Option.bind_some]
  unfold putL
  rw [if_neg c0, if_neg c1]
  obtain ⟨m, rfl⟩ : ∃ m, k = m + 6 := ⟨k - 6, by omega⟩
  unfold mo
  by_cases c : n < 248
  · rw [if_pos c, if_pos c, if_neg (by decide +kernel), if_pos (by decide +kernel), show n % 256 = n by omega]
  rw [if_neg c, if_neg c]
  by_cases c : n < 256
  · rw [if_pos c, if_pos c]
    rw [show wrap64 (wrap64 (1 + 1) - 1) = 1 by decide +kernel, if_neg (by decide +kernel), if_neg (by decide +kernel), if_pos (by decide +kernel), if_pos (by decide +kernel)]
    simp only [leb_Put.l0, show wrap64 (1 - 1) = 0 by decide +kernel, show wrap64 (1 + 1) = 2 by decide +kernel, show wrap64 (247 + 1) = 248 by decide +kernel]
    simp [List.replicate, show n % 256 = n by omega]
  rw [if_neg c, if_neg c]
  by_cases c : n < 65536
  · rw [if_pos c, if_pos c]
    rw [show wrap64 (wrap64 (1 + 2) - 1) = 2 by decide +kernel, if_neg (by decide +kernel), if_neg (by decide +kernel), if_pos (by decide +kernel), if_pos (by decide +kernel)]
    simp only [leb_Put.l0, show wrap64 (1 - 1) = 0 by decide +kernel, show wrap64 (2 - 1) = 1 by decide +kernel, show wrap64 (1 + 2) = 3 by decide +kernel, show wrap64 (247 + 2) = 249 by decide +kernel]
    simp [List.replicate, show n / 256 % 256 = n / 256 by omega]
  rw [if_neg c, if_neg c]
  by_cases c : n < 16777216
  · rw [if_pos c, if_pos c]
    rw [show wrap64 (wrap64 (1 + 3) - 1) = 3 by decide +kernel, if_neg (by decide +kernel), if_neg (by decide +kernel), if_pos (by decide +kernel), if_pos (by decide +kernel)]
    simp only [leb_Put.l0, show wrap64 (1 - 1) = 0 by decide +kernel, show wrap64 (2 - 1) = 1 by decide +kernel, show wrap64 (3 - 1) = 2 by decide +kernel, show wrap64 (1 + 3) = 4 by decide +kernel, show wrap64 (247 + 3) = 250 by decide +kernel]
    simp [List.replicate, show n / 256 / 256 % 256 = n / 65536 by omega]
  rw [if_neg c, if_neg c]
  rw [show wrap64 (wrap64 (1 + 4) - 1) = 4 by decide +kernel, if_neg (by decide +kernel), if_neg (by decide +kernel), if_pos (by decide +kernel), if_pos (by decide +kernel)]
  simp only [leb_Put.l0, show wrap64 (1 - 1) = 0 by decide +kernel, show wrap64 (2 - 1) = 1 by decide +kernel, show wrap64 (3 - 1) = 2 by decide +kernel, show wrap64 (4 - 1) = 3 by decide +kernel, show wrap64 (1 + 4) = 5 by decide +kernel, show wrap64 (247 + 4) = 251 by decide +kernel]
  simp [List.replicate, show n / 256 / 256 / 256 % 256 = n / 16777216 by omega, show n / 256 / 256 % 256 = n / 65536 % 256 by omega]
/-- all are bytes -/
theorem putL_bytes (n : Int) : ∀ x ∈ putL n, 0 ≤ x ∧ x < 256 := by
  unfold putL
  intro x hx
  repeat' split at hx
  all_goals simp at hx
  all_goals omega
theorem strOf_toList (l : List Int) : (strOfNums l).toList = l.map fun n => UInt8.ofNat n.toNat := by
  simp [strOfNums]
theorem strOf_append (a b : List Int) : strOfNums a ++ strOfNums b = strOfNums (a ++ b) := by
  apply ByteArray.ext
  simp [strOfNums]
theorem strOf_size (a : List Int) : (strOfNums a).size = a.length := by simp [strOfNums, ByteArray.size]
/-- so many bytes of s from place i on, behind n -/
def fold (s : ByteArray) : Nat → Int → Int → Int
  | 0, _, n => n
  | d + 1, i, n => fold s d (i + 1) (n * 256 + bt s i)
def Below256 (i n : Int) : Prop := 0 ≤ n ∧ (i = 1 → n = 0) ∧ (i = 2 → n < 256) ∧ (i = 3 → n < 65536) ∧ (i = 4 → n < 16777216) ∧ (i = 5 → n < 4294967296)
theorem or256 {n b : Int} (h0 : 0 ≤ n) (h1 : n < 16777216) (b0 : 0 ≤ b) (b1 : b < 256) : Go.bits .or .i64 (wrap64 (n * 256)) (wrap64 b) = n * 256 + b := by
  rw [w64 _ (by omega) (by omega), w64 _ (by omega) (by omega)]
  exact bits_join .i64 40 (by decide +kernel) (fun m _ h => by have h' : m < 1099511627776 := h; exact IntWalk.i64_in m (by omega)) 8 _ _ (by omega) (by omega) (by omega) (by omega) (by omega) (by omega)
theorem below_next {s : ByteArray} {i n : Int} (hi : 1 ≤ i) (h4 : i ≤ 4) (hb : Below256 i n) : Below256 (i + 1) (n * 256 + bt s i) ∧ n < 16777216 := by
  have hr := bt_range s i
  unfold Below256 at hb ⊢
  obtain ⟨h0, h1, h2, h3, h5, h6⟩ := hb
  refine ⟨⟨by omega, fun h => by omega, fun h => ?_, fun h => ?_, fun h => ?_, fun h => ?_⟩, by omega⟩
  · have := h1 (by omega); omega
  · have := h2 (by omega); omega
  · have := h3 (by omega); omega
  · have := h5 (by omega); omega
theorem fold_below (s : ByteArray) : ∀ (d : Nat) (i n : Int), 1 ≤ i → i + d ≤ 5 → Below256 i n → Below256 (i + d) (fold s d i n)
  | 0, i, n, _, _, hb => by simpa [fold] using hb
  | d + 1, i, n, h1, h5, hb => by
    have := fold_below s d (i + 1) (n * 256 + bt s i) (by omega) (by omega) (below_next h1 (by omega) hb).1
    have e : i + ((d + 1 : Nat) : Int) = i + 1 + (d : Int) := by omega
    rw [e]; exact this
theorem loop_take (s : ByteArray) (q : Int) (hq : q ≤ 4) (hs : q < s.size) (hq1 : 1 ≤ q) : ∀ (d k : Nat) (i n : Int), i + d = q + 1 → 1 ≤ i → Below256 i n → d + 7 ≤ k →
    leb_Take.l0 k s q n i = (if mo (fold s d i n) = q then some (fold s d i n, 1 + q, 0) else some (0, 0, 3))
  | 0, k, i, n, hd, h1, hb, hk => by
    obtain ⟨k, rfl⟩ : ∃ m, k = m + 1 := ⟨k - 1, by omega⟩
    have hi : i = q + 1 := by omega
    simp only [leb_Take.l0]
    rw [if_neg (by omega)]
    unfold Below256 at hb
    rw [more_eq n hb.1 (by omega) k (by omega), w64 (1 + q) (by omega) (by omega)]
    rfl
  | d + 1, k, i, n, hd, h1, hb, hk => by
    obtain ⟨k, rfl⟩ : ∃ m, k = m + 1 := ⟨k - 1, by omega⟩
    have hbn := below_next (s := s) h1 (by omega) hb
    have hr := bt_range s i
    simp only [leb_Take.l0]
    rw [if_pos (by omega), if_pos (by omega), if_pos (by omega), or256 hb.1 hbn.2 hr.1 (by omega), w64 (i + 1) (by omega) (by omega)]
    exact loop_take s q hq hs hq1 d k (i + 1) _ (by omega) (by omega) hbn.1 (by omega)
/-- what bytes begin with -/
def tk (s : ByteArray) : Int × Int × Int :=
  if s.size = 0 then (0, 0, 4) else if bt s 0 < 248 then (bt s 0, 1, 0) else if bt s 0 > 251 then (0, 0, 3) else
  if (s.size : Int) ≤ bt s 0 - 247 then (0, 0, 4) else
  if mo (fold s (bt s 0 - 247).toNat 1 0) = bt s 0 - 247 then (fold s (bt s 0 - 247).toNat 1 0, 1 + (bt s 0 - 247), 0) else (0, 0, 3)
theorem nil_iff (s : ByteArray) : s.toList = [] ↔ s.size = 0 := by
  rw [ByteArray.toList_eq]
  have : s.size = s.data.toList.length := Array.length_toList.symm
  rw [this, List.length_eq_zero_iff]
theorem take_eq (s : ByteArray) (k : Nat) (hk : 12 ≤ k) : leb_Take.f k s = some (tk s) := by
  have hr := bt_range s 0
  unfold leb_Take.f tk
  by_cases c : s.size = 0
  · rw [if_pos ((nil_iff s).2 c), if_pos c]
  rw [if_neg (fun h => c ((nil_iff s).1 h)), if_neg c, if_pos (by omega), w64 (bt s 0) (by omega) (by omega), w64 (bt s 0 - 248) (by omega) (by omega), w64 _ (by omega) (by omega)]
  by_cases c1 : bt s 0 < 248
  · rw [if_pos (by omega), if_pos c1]
  rw [if_neg (by omega), if_neg c1]
  by_cases c2 : bt s 0 > 251
  · rw [if_pos (by omega), if_pos c2]
  rw [if_neg (by omega), if_neg c2]
  have e : bt s 0 - 248 + 1 = bt s 0 - 247 := by omega
  rw [e]
  by_cases c3 : (s.size : Int) ≤ bt s 0 - 247
  · rw [if_pos c3, if_pos c3]
  rw [if_neg c3, if_neg c3, loop_take s (bt s 0 - 247) (by omega) (by omega) (by omega) (bt s 0 - 247).toNat k 1 0 (by omega) (by omega) ⟨by omega, by omega, by omega, by omega, by omega, by omega⟩ (by omega)]
  split <;> rfl
theorem u8_inj {a b : Int} (a0 : 0 ≤ a) (a1 : a < 256) (b0 : 0 ≤ b) (b1 : b < 256) : UInt8.ofNat a.toNat = UInt8.ofNat b.toNat ↔ a = b := by
  constructor
  · intro h
    have h' := congrArg UInt8.toNat h
    simp only [UInt8.toNat_ofNat'] at h'
    omega
  · intro h; rw [h]
theorem getD_bt (s : ByteArray) (i : Nat) (h : i < s.size) : s.toList[i]? = some (UInt8.ofNat (bt s i).toNat) := by
  rw [ByteArray.toList_eq, Array.getElem?_toList, Array.getElem?_eq_getElem (by simpa using h)]
  unfold bt
  rw [dif_pos (by simpa using h)]
  congr 1
  simp [ByteArray.getElem_eq_getElem_data]
theorem extract_toList (s : ByteArray) (k : Nat) : (s.extract 0 k).toList = s.toList.take k := by
  rw [ByteArray.toList_eq, ByteArray.toList_eq, ByteArray.data_extract]
  simp
theorem map_inj : ∀ (l m : List Int), (∀ x ∈ l, 0 ≤ x ∧ x < 256) → (∀ x ∈ m, 0 ≤ x ∧ x < 256) → (l.map (fun n => UInt8.ofNat n.toNat) = m.map (fun n => UInt8.ofNat n.toNat) ↔ l = m)
  | [], [], _, _ => by simp
  | [], _ :: _, _, _ => by simp
  | _ :: _, [], _, _ => by simp
  | a :: l, b :: m, hl, hm => by
    have ha := hl a (by simp)
    have hb := hm b (by simp)
    simp only [List.map_cons, List.cons.injEq, u8_inj ha.1 ha.2 hb.1 hb.2, map_inj l m (fun x hx => hl x (by simp [hx])) (fun x hx => hm x (by simp [hx]))]
/-- the first bytes, as numbers -/
def head (s : ByteArray) : Nat → List Int
  | 0 => []
  | k + 1 => head s k ++ [bt s k]
theorem head_bytes (s : ByteArray) : ∀ k, ∀ x ∈ head s k, 0 ≤ x ∧ x < 256
  | 0, x, h => by simp [head] at h
  | k + 1, x, h => by
    simp only [head, List.mem_append, List.mem_singleton] at h
    rcases h with h | h
    · exact head_bytes s k x h
    · have := bt_range s k; omega
theorem take_head (s : ByteArray) : ∀ k, k ≤ s.size → s.toList.take k = (head s k).map fun n => UInt8.ofNat n.toNat
  | 0, _ => by simp [head]
  | k + 1, h => by
    rw [List.take_add_one, take_head s k (by omega), getD_bt s k (by omega)]
    simp [head]
/-- as many bytes as the number has: just if they are the number's -/
theorem mo_put (s : ByteArray) (q : Nat) (h1 : 1 ≤ q) (h4 : q ≤ 4) (h0 : bt s 0 = 247 + q) : mo (fold s q 1 0) = q ↔ putL (fold s q 1 0) = head s (1 + q) := by
  have r1 := bt_range s 1
  have r2 := bt_range s 2
  have r3 := bt_range s 3
  have r4 := bt_range s 4
  have h0' : bt s ((0 : Nat) : Int) = 247 + q := h0
  obtain rfl | rfl | rfl | rfl : q = 1 ∨ q = 2 ∨ q = 3 ∨ q = 4 := by omega
  all_goals simp only [fold, head, List.nil_append, List.cons_append, h0']
  all_goals simp only [Int.reduceAdd, Int.natCast_one, Int.zero_add, Int.zero_mul]
  · generalize bt s 1 = b1 at *
    unfold mo putL
    repeat' split
    all_goals simp
    all_goals omega
  · generalize bt s 1 = b1 at *
    generalize bt s 2 = b2 at *
    unfold mo putL
    repeat' split
    all_goals simp
    all_goals omega
  · generalize bt s 1 = b1 at *
    generalize bt s 2 = b2 at *
    generalize bt s 3 = b3 at *
    unfold mo putL
    repeat' split
    all_goals simp
    all_goals omega
  · generalize bt s 1 = b1 at *
    generalize bt s 2 = b2 at *
    generalize bt s 3 = b3 at *
    generalize bt s 4 = b4 at *
    unfold mo putL
    repeat' split
    all_goals simp
    all_goals omega
theorem awake_eq (k : Nat) (hk : 12 ≤ k) : easementlaw02_awake.f k = some true := by
  unfold easementlaw02_awake.f
  rw [take_eq _ k hk, put_eq 247 k (by omega), put_eq 248 k (by omega), put_eq 256 k (by omega)]
  simp only [Option.bind_some, strOf_toList]
  decide +kernel
def dig (n : Int) : List Int := if n < 256 then [n] else if n < 65536 then [n / 256, n % 256] else if n < 16777216 then [n / 65536, n / 256 % 256, n % 256] else [n / 16777216, n / 65536 % 256, n / 256 % 256, n % 256]
theorem digits_eq : ∀ (j k : Nat) (n : Int), 0 ≤ n → n < 256 ^ j → 1 ≤ j → j ≤ 4 → j + 1 ≤ k → easementref02_digits.f k n = some (strOfNums (dig n))
  | 0, _, _, _, _, h, _, _ => by omega
  | j + 1, k, n, h0, h1, _, h4, hk => by
    obtain ⟨k, rfl⟩ : ∃ m, k = m + 1 := ⟨k - 1, by omega⟩
    simp only [easementref02_digits.f]
    by_cases c : n < 256
    · rw [if_pos c, show n % 256 = n by omega]
      unfold dig
      rw [if_pos c]
    rw [if_neg c]
    have hj : 1 ≤ j := by
      rcases j with _ | j
      · simp at h1; omega
      · omega
    have hlt : n / 256 < 256 ^ j := by rw [Int.pow_succ] at h1; omega
    have hn : n < 4294967296 := by
      obtain rfl | rfl | rfl : j = 1 ∨ j = 2 ∨ j = 3 := by omega
      all_goals simp at h1
      all_goals omega
    have ht : Int.tdiv n 256 = n / 256 := Int.tdiv_eq_ediv_of_nonneg h0
    have hm : Int.tmod n 256 = n % 256 := Int.tmod_eq_emod_of_nonneg h0
    rw [ht, hm, w64 (n / 256) (by omega) (by omega), digits_eq j k (n / 256) (by omega) hlt hj (by omega) (by omega)]
    simp only [Option.bind_some, strOf_size, strOf_append]
    have hl : (dig (n / 256)).length ≤ 4 := by
      unfold dig
      repeat' split
      all_goals simp
    rw [if_pos (by simp only [List.length_cons, List.length_nil]; omega)]
    congr 2
    unfold dig
    by_cases c1 : n < 65536
    · rw [if_pos (show n / 256 < 256 by omega), if_neg c, if_pos c1]
      simp
    rw [if_neg (show ¬ n / 256 < 256 by omega), if_neg c, if_neg c1]
    by_cases c2 : n < 16777216
    · rw [if_pos (show n / 256 < 65536 by omega), if_pos c2]
      simp
      omega
    rw [if_neg (show ¬ n / 256 < 65536 by omega), if_pos (show n / 256 < 16777216 by omega), if_neg c2]
    simp
    omega
theorem refput_eq (n : Int) (k : Nat) (hk : 8 ≤ k) : easementref02_Put.f k n = some (strOfNums (putL n)) := by
  obtain ⟨k, rfl⟩ : ∃ m, k = m + 1 := ⟨k - 1, by omega⟩
  unfold easementref02_Put.f
  by_cases c0 : n < 0
  · rw [if_pos c0, putL_none (.inl c0)]
    simp only [easementref02_Put.j0]
    rw [if_pos trivial, strOf_nil]
  rw [if_neg c0]
  simp only [easementref02_Put.j0]
  by_cases c1 : n > 4294967295
  · rw [if_pos (decide_eq_true c1), putL_none (.inr c1), strOf_nil]
  rw [if_neg (by simpa using c1)]
  by_cases c : n < 248
  · rw [if_pos c, show n % 256 = n by omega]
    unfold putL
    rw [if_neg c0, if_neg c1, if_pos c]
  rw [if_neg c, digits_eq 4 k n (by omega) (by simp; omega) (by omega) (by omega) (by omega)]
  simp only [Option.bind_some, strOf_size, strOf_append]
  unfold putL dig
  rw [if_neg c0, if_neg c1, if_neg c]
  have e1 : wrap64 (247 + ((1 : Nat) : Int)) % 256 = 248 := by decide +kernel
  have e2 : wrap64 (247 + ((2 : Nat) : Int)) % 256 = 249 := by decide +kernel
  have e3 : wrap64 (247 + ((3 : Nat) : Int)) % 256 = 250 := by decide +kernel
  have e4 : wrap64 (247 + ((4 : Nat) : Int)) % 256 = 251 := by decide +kernel
  by_cases d1 : n < 256
  · rw [if_pos d1, if_pos d1]
    simp only [List.length_cons, List.length_nil, Nat.zero_add, Nat.reduceAdd, e1]
    rw [if_pos (by decide)]; rfl
  rw [if_neg d1, if_neg d1]
  by_cases d2 : n < 65536
  · rw [if_pos d2, if_pos d2]
    simp only [List.length_cons, List.length_nil, Nat.zero_add, Nat.reduceAdd, e2]
    rw [if_pos (by decide)]; rfl
  rw [if_neg d2, if_neg d2]
  by_cases d3 : n < 16777216
  · rw [if_pos d3, if_pos d3]
    simp only [List.length_cons, List.length_nil, Nat.zero_add, Nat.reduceAdd, e3]
    rw [if_pos (by decide)]; rfl
  rw [if_neg d3, if_neg d3]
  simp only [List.length_cons, List.length_nil, Nat.zero_add, Nat.reduceAdd, e4]
  rw [if_pos (by decide)]; rfl
theorem bytesOf_strOf (l : List Int) (h : ∀ x ∈ l, 0 ≤ x ∧ x < 256) : bytesOf (strOfNums l) = l := by
  unfold bytesOf strOfNums
  simp only [List.map_map]
  conv => rhs; rw [← List.map_id l]
  apply List.map_congr_left
  intro x hx
  have := h x hx
  simp only [Function.comp_apply, UInt8.toNat_ofNat', id]
  omega
/-- the bytes of several -/
def allL (l : List Int) : List Int := (l.map putL).flatten
theorem allL_cons (x : Int) (r : List Int) : allL (x :: r) = putL x ++ allL r := by simp [allL]
theorem allL_bytes (l : List Int) : ∀ x ∈ allL l, 0 ≤ x ∧ x < 256 := by
  intro x hx
  simp only [allL, List.mem_flatten, List.mem_map] at hx
  obtain ⟨_, ⟨n, _, rfl⟩, hx⟩ := hx
  exact putL_bytes n x hx
theorem putL_len (n : Int) : (putL n).length ≤ 5 := by
  unfold putL
  repeat' split
  all_goals simp
theorem rd_eq {l : List Int} {i : Nat} (h : i < l.length) : rd l (i : Int) = l[i] := by
  unfold rd; simp [List.getD_eq_getElem?_getD, List.getElem?_eq_getElem h]
theorem all_loop (l : List Int) (hl : l.length ≤ 100) : ∀ (d : Nat) (i : Nat) (k : Nat) (acc : List Int), i + d = l.length → d + 10 ≤ k → acc.length ≤ 5 * i → leb_All.l0 k acc l (l.length : Int) (i : Int) = some (strOfNums (acc ++ allL (l.drop i)))
  | 0, i, k, acc, hd, hk, _ => by
    obtain ⟨k, rfl⟩ : ∃ m, k = m + 1 := ⟨k - 1, by omega⟩
    simp only [leb_All.l0]
    rw [if_neg (by omega), List.drop_eq_nil_of_le (by omega)]
    simp [allL]
  | d + 1, i, k, acc, hd, hk, ha => by
    obtain ⟨k, rfl⟩ : ∃ m, k = m + 1 := ⟨k - 1, by omega⟩
    simp only [leb_All.l0]
    have hi : i < l.length := by omega
    have hp := putL_len l[i]
    rw [if_pos (by omega), if_pos (by omega), if_pos (by omega), rd_eq hi, put_eq _ k (by omega)]
    simp only [Option.bind_some]
    rw [strOf_size, if_pos (by omega), bytesOf_strOf _ (putL_bytes _), w64 _ (by omega) (by omega)]
    have e : (i : Int) + 1 = ((i + 1 : Nat) : Int) := by omega
    rw [e, all_loop l hl d (i + 1) k _ (by omega) (by omega) (by rw [List.length_append]; omega), List.append_assoc, List.drop_eq_getElem_cons hi, allL_cons]
theorem size_eq (n : Int) (k : Nat) (hk : 6 ≤ k) : leb_Size.f k n = some ((putL n).length : Int) := by
  unfold leb_Size.f
  by_cases c0 : n < 0
  · rw [if_pos c0, putL_none (.inl c0)]; rfl
  rw [if_neg c0]
  by_cases c1 : n > 4294967295
  · rw [if_pos c1, putL_none (.inr c1)]; rfl
  rw [if_neg c1, more_eq n (by omega) (by omega) k hk]
  simp only [Option.bind_some, Option.some.injEq]
  unfold mo putL
  rw [if_neg c0, if_neg c1]
  by_cases c : n < 248
  · rw [if_pos c, if_pos c]; rw [show wrap64 (1 + 0) = 1 by decide +kernel]; rfl
  rw [if_neg c, if_neg c]
  by_cases c : n < 256
  · rw [if_pos c, if_pos c]; rw [show wrap64 (1 + 1) = 2 by decide +kernel]; rfl
  rw [if_neg c, if_neg c]
  by_cases c : n < 65536
  · rw [if_pos c, if_pos c]; rw [show wrap64 (1 + 2) = 3 by decide +kernel]; rfl
  rw [if_neg c, if_neg c]
  by_cases c : n < 16777216
  · rw [if_pos c, if_pos c]; rw [show wrap64 (1 + 3) = 4 by decide +kernel]; rfl
  rw [if_neg c, if_neg c]; rw [show wrap64 (1 + 4) = 5 by decide +kernel]; rfl
theorem law_loop (n : Int) (l : List Int) (hl : l.length ≤ 100) : ∀ (d : Nat) (i : Nat) (k : Nat) (acc : List Int), i + d = l.length → d + 200 ≤ k → acc.length ≤ 5 * i → acc ++ allL (l.drop i) = allL l → easementlaw02_LebPuts.l0 k n l (strOfNums acc) (i : Int) = some true
  | 0, i, k, acc, hd, hk, _, he => by
    obtain ⟨k, rfl⟩ : ∃ m, k = m + 1 := ⟨k - 1, by omega⟩
    simp only [easementlaw02_LebPuts.l0]
    rw [List.drop_eq_nil_of_le (by omega)] at he
    have he' : acc = allL l := by simpa [allL] using he
    rw [if_neg (by omega), put_eq n k (by omega), refput_eq n k (by omega), size_eq n k (by omega), awake_eq k (by omega)]
    simp only [Option.bind_some]
    unfold leb_All.f
    have ea := all_loop l hl l.length 0 k [] (by omega) (by omega) (by simp)
    simp only [List.nil_append, List.drop_zero] at ea
    rw [if_pos trivial, strOf_size, if_pos rfl]
    rw [show ((0 : Nat) : Int) = 0 from rfl] at ea
    rw [ea]
    simp only [Option.bind_some]
    rw [he', if_pos rfl]
  | d + 1, i, k, acc, hd, hk, ha, he => by
    obtain ⟨k, rfl⟩ : ∃ m, k = m + 1 := ⟨k - 1, by omega⟩
    simp only [easementlaw02_LebPuts.l0]
    have hi : i < l.length := by omega
    have hp := putL_len l[i]
    rw [if_pos (by omega), if_pos (by omega), rd_eq hi, refput_eq _ k (by omega)]
    simp only [Option.bind_some]
    rw [strOf_size, strOf_size, if_pos (by omega), strOf_append, w64 _ (by omega) (by omega)]
    have e : (i : Int) + 1 = ((i + 1 : Nat) : Int) := by omega
    rw [e]
    refine law_loop n l hl d (i + 1) k _ (by omega) (by omega) (by rw [List.length_append]; omega) ?_
    rw [← he, List.drop_eq_getElem_cons hi, List.append_assoc, allL_cons]
theorem LebPuts : easementlaw02_LebPuts.Pure := by
  intro n l _ _ _ _
  refine ⟨300, ?_⟩
  unfold easementlaw02_LebPuts.f
  by_cases c : (l.length : Int) > 100
  · rw [if_pos c, awake_eq 300 (by omega)]; rfl
  rw [if_neg c]
  exact law_loop n l (by omega) l.length 0 300 [] (by omega) (by omega) (by simp) (by simp [allL])

end Go.Proofs.Ytnabbhcagonlkaa.Pure
